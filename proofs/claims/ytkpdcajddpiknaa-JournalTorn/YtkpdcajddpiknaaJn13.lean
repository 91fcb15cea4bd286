/-
  JournalTorn, walked. Printed by a program of my own.
-/
import Derived.Test.YtkpdcajddpiknaaJn12
import Derived.Test.YtkpdcajddpiknaaJnLaw6
namespace Go.Proofs
open Go Go.Sl Go.Jn
theorem recs_at {C : KC} {I : KI} {w : Nat} {c : ByteArray} (h : isP C I) (hc : C.recs[w]? = some c) : ∃ r, I.recs[w]? = some r ∧ c.size = r.length := by
  rw [← h.2.2.2, List.getElem?_map] at hc
  cases hr : I.recs[w]? with
  | none => rw [hr] at hc; cases hc
  | some r => rw [hr] at hc; injection hc with hc; exact ⟨r, rfl, by rw [← hc]; rfl⟩
theorem sizes_take_le {l : List Bs} {w : Nat} : sizes (l.take w) ≤ sizes l := by
  have := sizes_split l w; omega
theorem row_str_take {p : Option Addr} {m c T w : Nat} {xs : List ByteArray} {h : PHeap} (hr : row (.slice p m c) T 1 m (xs.map fun s => .string s) h) (hw : w ≤ m) : Sl StrR h (.slice p w c) (xs.take w) := by
  have h1 := (row_flat (enc := fun x : ByteArray => .string x) hr).1
  have h2 := row_len hr
  exact ⟨p, c, by rw [List.length_take, Nat.min_eq_left (by omega)], by rw [List.length_take]; omega, by have := h2.2.2; unfold maxLen at this; omega, Elems.take w (row_stre hr)⟩
theorem tf117 : cfB Try.prog 11 = true := by kernel_rfl
theorem tf118 : Try.prog.underlying 23 = some (.int .u16) := by kernel_rfl
set_option maxHeartbeats 4000000 in
theorem torn_ok (β : Base) (w : World) (hw : St β [] w) (xs : List KOp) (v : Value) (hs : Sl OpR β.heap v xs) (at_ : Nat) (hat : at_ < 65536) (by_ : UInt8) : Calls Try.prog 3 #[v, .int .u16 ((at_ : Nat) : Int), Bx by_] w fun r w' => r = .returned (.bool true) ∧ St β [] w' := by
  obtain ⟨va, vc, rfl, vl, vm, ve⟩ := hs.get
  refine enter (n := 164) Try.func3 rfl Try.ntmps3 rfl ?_ hw
  refine c_seq ?_
  refine c_region ?_
  refine l_val (v := .bool false) rfl rfl rfl (e_assign) ?_
  refine l_nil ?_
  refine f_then ?_
  refine c_seq ?_
  refine c_region ?_
  refine l_val (v := .slice va (xs.length) (vc)) rfl rfl rfl (e_move) ?_
  refine l_call rfl rfl rfl (cl_value (fst := []) (cap := []) (vs := [.slice va (xs.length) (vc)]) (all := [.slice va (xs.length) (vc)]) tf117 rfl rfl rfl) ?_
  intro w hw
  obtain ⟨β1, sb, kn, hw1, back⟩ := St.frame_all hw
  refine (grown_ok β1 w hw1 xs _ (Sl.mono _ _ _ _ _ sb (⟨⟨_, _, rfl, vl, vm, ve⟩⟩ : Sl OpR _ _ xs))).mono ?_
  rintro e w' ⟨S1, K2, I3, C4, p5, c6, rfl, hI, hC, hP, hX, hw'⟩
  refine ⟨_, rfl, _, back _ _ hw', ?_⟩
  clear hw hw1 hw' back kn sb
  refine l_val (v := .tuple #[.pointer (some ⟨S1, 0, none⟩), .agg #[Nx (C4.epoch), Nx (C4.next), .string (C4.state), .slice p5 (C4.recs).length c6], .bool true]) rfl rfl rfl (e_move) ?_
  refine l_val (v := .pointer (some ⟨S1, 0, none⟩)) rfl rfl rfl (e_extract (vs := #[.pointer (some ⟨S1, 0, none⟩), .agg #[Nx (C4.epoch), Nx (C4.next), .string (C4.state), .slice p5 (C4.recs).length c6], .bool true]) rfl rfl) ?_
  refine l_val (v := .agg #[Nx (C4.epoch), Nx (C4.next), .string (C4.state), .slice p5 (C4.recs).length c6]) rfl rfl rfl (e_extract (vs := #[.pointer (some ⟨S1, 0, none⟩), .agg #[Nx (C4.epoch), Nx (C4.next), .string (C4.state), .slice p5 (C4.recs).length c6], .bool true]) rfl rfl) ?_
  refine l_val (v := .bool true) rfl rfl rfl (e_extract (vs := #[.pointer (some ⟨S1, 0, none⟩), .agg #[Nx (C4.epoch), Nx (C4.next), .string (C4.state), .slice p5 (C4.recs).length c6], .bool true]) rfl rfl) ?_
  refine l_mv rfl rfl rfl (m_alloc tf112) ?_
  rintro _ _ ⟨b7, rfl, rfl⟩
  refine l_val (v := .pointer (some ⟨S1, 0, none⟩)) rfl rfl rfl (e_assign) ?_
  refine l_mu rfl rfl (m_store 0 tf101 (b := b7) (o := 0) (T := 27) (cs := #[.int .i64 (0), .int .i64 (0), .string ((⟨#[]⟩ : ByteArray)), .slice none 0 0]) (cs' := #[Nx (C4.epoch), Nx (C4.next), .string (C4.state), .slice p5 (C4.recs).length c6]) (v := .agg #[Nx (C4.epoch), Nx (C4.next), .string (C4.state), .slice p5 (C4.recs).length c6]) rfl rfl rfl rfl rfl rfl rfl) ?_
  refine l_val (v := .bool true) rfl rfl rfl (e_assign) ?_
  refine l_nil ?_
  refine f_then ?_
  refine c_seq ?_
  refine c_seq ?_
  refine c_region ?_
  refine l_val (v := .bool true) rfl rfl rfl (e_move) ?_
  refine l_val (v := .bool false) rfl rfl rfl (e_not (a := true) rfl) ?_
  refine l_nil ?_
  refine f_then ?_
  refine c_no rfl ?_
  refine c_skip ?_
  refine f_then ?_
  refine c_seq ?_
  have hC1 := hC.1
  have hC2n := hC.2.1
  have hC4 := congrArg List.length hC.2.2.2
  rw [List.length_map] at hC4
  have hnN := hI.nN
  have hrl0 := hI.wf.next
  have hlens := hI.lens
  have hst : C4.state.size = I3.state.length := by rw [← hC.2.2.1]; rfl
  have hst3 := hI.st
  have hsz0 := hI.sz
  refine c_perm (L' := [storeR S1 K2, pt b7 (.cells #[Nx (C4.epoch), Nx (C4.next), .string (C4.state), .slice p5 (C4.recs).length c6] 27), row (.slice p5 (C4.recs).length c6) 9 1 ((C4.recs).length) (C4.recs.map (fun s : ByteArray => Value.string s))]) (by exact (((perm_front 2 rfl).trans (perm_front 1 rfl)).trans (perm_front 2 rfl))) ?_
  refine c_openStore rfl (fun pH8 pA9 pB10 cH11 cA12 cB13 => ?_)
  refine c_rowcap 1 rfl (fun hcl14 hcm15 => ?_)
  refine c_rowcap 2 rfl (fun hcl16 hcm17 => ?_)
  refine c_rowcap 3 rfl (fun hcl18 hcm19 => ?_)
  refine c_region ?_
  refine l_val (v := .pointer (some ⟨S1, 0, none⟩)) rfl rfl rfl (e_move) ?_
  refine l_val (v := .pointer (some ⟨S1, 0, none⟩)) rfl rfl rfl (e_nil (a := ⟨S1, 0, none⟩) rfl) ?_
  refine l_val (v := .pointer (some ⟨S1, 1, none⟩)) rfl rfl rfl (e_fieldPt (b := S1) (o := 0) rfl tf22) ?_
  refine l_val (v := .slice pA9 (K2.a).length cA12) rfl rfl rfl (e_load1 tf21 (v := .slice pA9 (K2.a).length cA12) rfl (k_pt 0 (cs := #[.slice pH8 (K2.head).length cH11, .slice pA9 (K2.a).length cA12, .slice pB10 (K2.b).length cB13, Ix (K2.power)]) (vs := [.slice pA9 (K2.a).length cA12]) rfl rfl)) ?_
  refine l_val (v := .slice pA9 (K2.a).length cA12) rfl rfl rfl (e_assign) ?_
  refine l_nil ?_
  refine f_then ?_
  refine c_seq ?_
  refine c_seq ?_
  refine c_region ?_
  refine l_val (v := .pointer (some ⟨b7, 0, none⟩)) rfl rfl rfl (e_fieldPt (b := b7) (o := 0) rfl tf89) ?_
  refine l_val (v := Nx (C4.epoch)) rfl rfl rfl (e_load1 tf25 (v := Nx (C4.epoch)) rfl (k_pt 4 (cs := #[Nx (C4.epoch), Nx (C4.next), .string (C4.state), .slice p5 (C4.recs).length c6]) (vs := [Nx (C4.epoch)]) rfl rfl)) ?_
  refine l_val (v := Nx (C4.epoch % 2)) rfl rfl rfl (e_rem (a := ((C4.epoch : Nat) : Int)) (b := (2 : Int)) rfl rfl (by decide) (nat_tmod _ 2)) ?_
  refine l_val (v := .bool (decide (((C4.epoch % 2 : Nat) : Int) = (1 : Int)))) rfl rfl rfl (e_eql (a := ((C4.epoch % 2 : Nat) : Int)) (b := (1 : Int)) rfl rfl) ?_
  refine l_nil ?_
  refine f_then ?_
  refine c_if (((C4.epoch % 2 : Nat) : Int) = (1 : Int)) rfl (fun hc20 => ?_) (fun hc20 => ?_)
  ·
    have hpar : I3.epoch % 2 = 1 := by omega
    refine c_region ?_
    refine l_val (v := .pointer (some ⟨S1, 0, none⟩)) rfl rfl rfl (e_move) ?_
    refine l_val (v := .pointer (some ⟨S1, 0, none⟩)) rfl rfl rfl (e_nil (a := ⟨S1, 0, none⟩) rfl) ?_
    refine l_val (v := .pointer (some ⟨S1, 2, none⟩)) rfl rfl rfl (e_fieldPt (b := S1) (o := 0) rfl tf23) ?_
    refine l_val (v := .slice pB10 (K2.b).length cB13) rfl rfl rfl (e_load1 tf21 (v := .slice pB10 (K2.b).length cB13) rfl (k_pt 0 (cs := #[.slice pH8 (K2.head).length cH11, .slice pA9 (K2.a).length cA12, .slice pB10 (K2.b).length cB13, Ix (K2.power)]) (vs := [.slice pB10 (K2.b).length cB13]) rfl rfl)) ?_
    refine l_val (v := .slice pB10 (K2.b).length cB13) rfl rfl rfl (e_assign) ?_
    refine l_nil ?_
    refine f_then ?_
    refine c_seq ?_
    refine c_seq ?_
    refine c_region ?_
    refine l_val (v := .slice pB10 (K2.b).length cB13) rfl rfl rfl (e_move) ?_
    refine l_val (v := Nx ((K2.b).length)) rfl rfl rfl (e_len (a := pB10) (n := (K2.b).length) (c := cB13) rfl tf11) ?_
    refine l_val (v := .bool (decide ((((K2.b).length : Nat) : Int) = (0 : Int)))) rfl rfl rfl (e_eql (a := (((K2.b).length : Nat) : Int)) (b := (0 : Int)) rfl rfl) ?_
    refine l_nil ?_
    refine f_then ?_
    refine c_if ((((K2.b).length : Nat) : Int) = (0 : Int)) rfl (fun hc21 => ?_) (fun hc21 => ?_)
    ·
      refine c_seq ?_
      refine c_region ?_
      refine l_call rfl rfl rfl (cl_value (fst := []) (cap := []) (vs := []) (all := []) tf111 rfl rfl rfl) ?_
      intro w hw
      obtain ⟨β1, sb, kn, hw1, back⟩ := St.frame_all hw
      refine (awake_ok β1 w hw1).mono ?_
      rintro e w' ⟨rfl, hw'⟩
      refine ⟨_, rfl, _, back _ _ hw', ?_⟩
      clear hw hw1 hw' back kn sb
      refine l_val (v := .bool true) rfl rfl rfl (e_assign) ?_
      refine l_nil ?_
      refine f_then ?_
      refine c_ret ?_
      refine f_then_ret ?_
      refine ret1 Try.results3 (v := .bool true) rfl ?_
      intro w hw
      exact ⟨rfl, st_mask [false, false, false, false, false, false] rfl hw⟩
    ·
      refine c_skip ?_
      refine f_then ?_
      refine c_seq ?_
      refine c_region ?_
      refine l_val (v := .int .u16 (((at_ : Nat)) : Int)) rfl rfl rfl (e_move) ?_
      refine l_val (v := Nx (at_)) rfl rfl rfl (e_conv (a := ((at_ : Nat) : Int)) rfl ⟨_, tf118⟩ tf1 (i64n rfl (by omega))) ?_
      refine l_val (v := .slice pB10 (K2.b).length cB13) rfl rfl rfl (e_move) ?_
      refine l_val (v := Nx ((K2.b).length)) rfl rfl rfl (e_len (a := pB10) (n := (K2.b).length) (c := cB13) rfl tf11) ?_
      refine l_val (v := Nx (at_ % ((K2.b).length))) rfl rfl rfl (e_rem (a := ((at_ : Nat) : Int)) (b := (((K2.b).length : Nat) : Int)) rfl rfl (by omega) (nat_tmod _ _)) ?_
      refine l_val (v := Nx (at_ % ((K2.b).length))) rfl rfl rfl (e_assign) ?_
      refine l_nil ?_
      refine f_then ?_
      refine c_seq ?_
      have hkl : at_ % (K2.b.length) < K2.b.length := Nat.mod_lt _ (by omega)
      refine c_region ?_
      refine l_val (v := .slice pB10 (K2.b).length cB13) rfl rfl rfl (e_move) ?_
      refine l_val (v := Nx (at_ % ((K2.b).length))) rfl rfl rfl (e_move) ?_
      refine l_val (v := .pointer (some ((ba pB10).add ((at_ % ((K2.b).length)) * 1)))) rfl rfl rfl (e_indexRow 3 (j := at_ % ((K2.b).length)) (len := (K2.b).length) (cap := cB13) (p := pB10) rfl rfl tf12 (by omega) (by omega) rfl) ?_
      obtain ⟨c22, hc23⟩ : ∃ c, K2.b[(at_ % ((K2.b).length))]? = some c := ⟨_, List.getElem?_eq_getElem (by omega)⟩
      refine l_val (v := Bx (c22)) rfl rfl rfl (e_load1 tf13 (v := Bx (c22)) rfl (k_row 3 (o := (at_ % ((K2.b).length)) * 1) (us := [Bx (c22)]) rfl (bx_at hc23) (Nat.succ_pos _))) ?_
      refine l_val (v := Bx (by_)) rfl rfl rfl (e_move) ?_
      refine l_val (v := Bx (max by_ (1 : UInt8))) rfl rfl rfl (ev_eq (congrArg (Value.int .u8) (bx_max _ _)) (e_max (a := ((by_).toNat : Int)) (b := ((1 : UInt8).toNat : Int)) rfl rfl)) ?_
      refine l_val (v := Bx (c22 ^^^ (max by_ (1 : UInt8)))) rfl rfl rfl (e_xor (a := ((c22).toNat : Int)) (b := ((max by_ (1 : UInt8)).toNat : Int)) rfl rfl (bx_xor _ _)) ?_
      refine l_val (v := .pointer (some ((ba pB10).add ((at_ % ((K2.b).length)) * 1)))) rfl rfl rfl (e_indexRow 3 (j := at_ % ((K2.b).length)) (len := (K2.b).length) (cap := cB13) (p := pB10) rfl rfl tf12 (by omega) (by omega) rfl) ?_
      refine l_mu rfl rfl (m_storeRow 3 tf13 (o := (at_ % ((K2.b).length)) * 1) (v := Bx (c22 ^^^ (max by_ (1 : UInt8)))) rfl rfl rfl rfl rfl (by omega) (by omega)) ?_
      refine l_re (L' := [pt S1 (.cells #[.slice pH8 (K2.head).length cH11, .slice pA9 (K2.a).length cA12, .slice pB10 ((K2.b.set (at_ % ((K2.b).length)) (c22 ^^^ (max by_ (1 : UInt8))))).length cB13, Ix (K2.power)] 32), row (.slice pH8 (K2.head).length cH11) 5 1 ((K2.head).length) (BX K2.head), row (.slice pA9 (K2.a).length cA12) 5 1 ((K2.a).length) (BX K2.a), row (.slice pB10 ((K2.b.set (at_ % ((K2.b).length)) (c22 ^^^ (max by_ (1 : UInt8))))).length cB13) 5 1 (((K2.b.set (at_ % ((K2.b).length)) (c22 ^^^ (max by_ (1 : UInt8))))).length) (BX (K2.b.set (at_ % ((K2.b).length)) (c22 ^^^ (max by_ (1 : UInt8))))), pt b7 (.cells #[Nx (C4.epoch), Nx (C4.next), .string (C4.state), .slice p5 (C4.recs).length c6] 27), row (.slice p5 (C4.recs).length c6) 9 1 ((C4.recs).length) (C4.recs.map (fun s : ByteArray => Value.string s))]) (by show [pt S1 (.cells #[.slice pH8 (K2.head).length cH11, .slice pA9 (K2.a).length cA12, .slice pB10 (K2.b).length cB13, Ix (K2.power)] 32), row (.slice pH8 (K2.head).length cH11) 5 1 ((K2.head).length) (BX K2.head), row (.slice pA9 (K2.a).length cA12) 5 1 ((K2.a).length) (BX K2.a), row (.slice pB10 (K2.b).length cB13) 5 1 ((K2.b).length) ((overL (BX K2.b) ((at_ % ((K2.b).length)) * 1) [Bx (c22 ^^^ (max by_ (1 : UInt8)))])), pt b7 (.cells #[Nx (C4.epoch), Nx (C4.next), .string (C4.state), .slice p5 (C4.recs).length c6] 27), row (.slice p5 (C4.recs).length c6) 9 1 ((C4.recs).length) (C4.recs.map (fun s : ByteArray => Value.string s))] = _; rw [overL_bx (by omega)]; simp only [List.length_set]) ?_
      refine l_nil ?_
      refine f_then ?_
      refine c_seq ?_
      have har := area_odd (k := K2) hpar
      have hcx : (encI I3)[at_ % ((K2.b).length)]? = some c22 := by rw [← hI.exact, har]; exact hc23
      have hne : c22 ≠ c22 ^^^ (max by_ (1 : UInt8)) := xor8_ne (max8_ne _)
      have hok : ({ K2 with b := K2.b.set (at_ % ((K2.b).length)) (c22 ^^^ (max by_ (1 : UInt8))) } : KS).okP := by have h0 := hI.okP (show 8 ≤ 100 by omega); unfold KS.okP at h0 ⊢; simpa using h0
      rcases torn_read (K' := ({ K2 with b := K2.b.set (at_ % ((K2.b).length)) (c22 ^^^ (max by_ (1 : UInt8))) } : KS)) hI hcx hne rfl (by rw [← hI.exact, har]; exact area_odd hpar) with ⟨⟨hA1, hA2⟩, hri⟩ | ⟨hB, tw, tr, ht1, ht2, ht3, hri⟩
      ·
        refine c_region ?_
        refine l_val (v := .pointer (some ⟨S1, 0, none⟩)) rfl rfl rfl (e_move) ?_
        refine l_val (v := .pointer (some ⟨S1, 0, none⟩)) rfl rfl rfl (e_nil (a := ⟨S1, 0, none⟩) rfl) ?_
        refine l_val (v := .agg #[.slice pH8 (K2.head).length cH11, .slice pA9 (K2.a).length cA12, .slice pB10 ((K2.b.set (at_ % ((K2.b).length)) (c22 ^^^ (max by_ (1 : UInt8))))).length cB13, Ix (K2.power)]) rfl rfl rfl (e_load tf56 (cs := [.slice pH8 (K2.head).length cH11, .slice pA9 (K2.a).length cA12, .slice pB10 ((K2.b.set (at_ % ((K2.b).length)) (c22 ^^^ (max by_ (1 : UInt8))))).length cB13, Ix (K2.power)]) rfl (k_pt 0 (cs := #[.slice pH8 (K2.head).length cH11, .slice pA9 (K2.a).length cA12, .slice pB10 ((K2.b.set (at_ % ((K2.b).length)) (c22 ^^^ (max by_ (1 : UInt8))))).length cB13, Ix (K2.power)]) (vs := [.slice pH8 (K2.head).length cH11, .slice pA9 (K2.a).length cA12, .slice pB10 ((K2.b.set (at_ % ((K2.b).length)) (c22 ^^^ (max by_ (1 : UInt8))))).length cB13, Ix (K2.power)]) rfl rfl) rfl) ?_
        refine l_call rfl rfl rfl (cl_value (fst := []) (cap := []) (vs := [.agg #[.slice pH8 (K2.head).length cH11, .slice pA9 (K2.a).length cA12, .slice pB10 ((K2.b.set (at_ % ((K2.b).length)) (c22 ^^^ (max by_ (1 : UInt8))))).length cB13, Ix (K2.power)]]) (all := [.agg #[.slice pH8 (K2.head).length cH11, .slice pA9 (K2.a).length cA12, .slice pB10 ((K2.b.set (at_ % ((K2.b).length)) (c22 ^^^ (max by_ (1 : UInt8))))).length cB13, Ix (K2.power)]]) tf69 rfl rfl rfl) ?_
        intro w hw
        obtain ⟨β1, sb, kn, hw1, back⟩ := St.frame_all hw
        refine (readC_form β1 w hw1 ({ K2 with b := K2.b.set (at_ % ((K2.b).length)) (c22 ^^^ (max by_ (1 : UInt8))) } : KS) _ _ _ (kn _ (Knows.of_res 1 rfl (Sl.mono U8R _ _) fun _ h => row_u8 h)) (kn _ (Knows.of_res 2 rfl (Sl.mono U8R _ _) fun _ h => row_u8 h)) (kn _ (Knows.of_res 3 rfl (Sl.mono U8R _ _) fun _ h => row_u8 h)) hok hri).mono ?_
        rintro e w' ⟨rfl, hw'⟩
        refine ⟨_, rfl, _, back _ _ hw', ?_⟩
        clear hw hw1 hw' back kn sb
        refine l_val (v := .tuple #[.agg #[.int .i64 (0), .int .i64 (0), .slice none 0 0, .slice none 0 0, .int .i64 (0)], .int .i64 (311)]) rfl rfl rfl (e_move) ?_
        refine l_val (v := .agg #[.int .i64 (0), .int .i64 (0), .slice none 0 0, .slice none 0 0, .int .i64 (0)]) rfl rfl rfl (e_extract (vs := #[.agg #[.int .i64 (0), .int .i64 (0), .slice none 0 0, .slice none 0 0, .int .i64 (0)], .int .i64 (311)]) rfl rfl) ?_
        refine l_val (v := .int .i64 (311)) rfl rfl rfl (e_extract (vs := #[.agg #[.int .i64 (0), .int .i64 (0), .slice none 0 0, .slice none 0 0, .int .i64 (0)], .int .i64 (311)]) rfl rfl) ?_
        refine l_mv rfl rfl rfl (m_alloc tf55) ?_
        rintro _ _ ⟨b24, rfl, rfl⟩
        refine l_mu rfl rfl (m_store 0 tf59 (b := b24) (o := 0) (T := 36) (cs := #[.int .i64 (0), .int .i64 (0), .slice none 0 0, .slice none 0 0, .int .i64 (0)]) (cs' := #[.int .i64 (0), .int .i64 (0), .slice none 0 0, .slice none 0 0, .int .i64 (0)]) (v := .agg #[.int .i64 (0), .int .i64 (0), .slice none 0 0, .slice none 0 0, .int .i64 (0)]) rfl rfl rfl rfl rfl rfl rfl) ?_
        refine l_val (v := .int .i64 (311)) rfl rfl rfl (e_assign) ?_
        refine l_nil ?_
        refine f_then ?_
        refine c_seq ?_
        refine c_region ?_
        refine l_val (v := .int .i64 (0)) rfl rfl rfl (e_assign) ?_
        refine l_nil ?_
        refine f_then ?_
        refine c_seq ?_
        refine c_seq ?_
        refine c_region ?_
        refine l_val (v := .pointer (some ⟨b7, 0, none⟩)) rfl rfl rfl (e_fieldPt (b := b7) (o := 0) rfl tf89) ?_
        refine l_val (v := Nx (C4.epoch)) rfl rfl rfl (e_load1 tf25 (v := Nx (C4.epoch)) rfl (k_pt 5 (cs := #[Nx (C4.epoch), Nx (C4.next), .string (C4.state), .slice p5 (C4.recs).length c6]) (vs := [Nx (C4.epoch)]) rfl rfl)) ?_
        refine l_val (v := .bool (decide ((0 : Int) < ((C4.epoch : Nat) : Int)))) rfl rfl rfl (e_gtr (a := ((C4.epoch : Nat) : Int)) (b := (0 : Int)) rfl rfl) ?_
        refine l_nil ?_
        refine f_then ?_
        refine c_if ((0 : Int) < ((C4.epoch : Nat) : Int)) rfl (fun hc25 => ?_) (fun hc25 => ?_)
        ·
          have hbs : baseOf I3 = 24 + I3.state.length := if_neg (by omega)
          refine c_seq ?_
          refine c_region ?_
          refine l_val (v := .pointer (some ⟨b7, 2, none⟩)) rfl rfl rfl (e_fieldPt (b := b7) (o := 0) rfl tf93) ?_
          refine l_val (v := .string (C4.state)) rfl rfl rfl (e_load1 tf6 (v := .string (C4.state)) rfl (k_pt 5 (cs := #[Nx (C4.epoch), Nx (C4.next), .string (C4.state), .slice p5 (C4.recs).length c6]) (vs := [.string (C4.state)]) rfl rfl)) ?_
          refine l_val (v := Nx ((C4.state).size)) rfl rfl rfl (e_len_s (s := C4.state) rfl tf7) ?_
          refine l_val (v := Nx (24 + ((C4.state).size))) rfl rfl rfl (e_add (a := (24 : Int)) (b := (((C4.state).size : Nat) : Int)) rfl rfl (i64n (by omega) (by omega))) ?_
          refine l_val (v := Nx (24 + ((C4.state).size))) rfl rfl rfl (e_assign) ?_
          refine l_nil ?_
          refine f_then ?_
          refine c_seq ?_
          refine c_region ?_
          refine l_val (v := Nx (at_ % ((K2.b).length))) rfl rfl rfl (e_move) ?_
          refine l_val (v := Nx (24 + ((C4.state).size))) rfl rfl rfl (e_move) ?_
          refine l_val (v := .bool (decide (((at_ % ((K2.b).length) : Nat) : Int) < ((24 + ((C4.state).size) : Nat) : Int)))) rfl rfl rfl (e_lss (a := ((at_ % ((K2.b).length) : Nat) : Int)) (b := ((24 + ((C4.state).size) : Nat) : Int)) rfl rfl) ?_
          refine l_nil ?_
          refine f_then ?_
          refine c_if (((at_ % ((K2.b).length) : Nat) : Int) < ((24 + ((C4.state).size) : Nat) : Int)) rfl (fun hc26 => ?_) (fun hc26 => ?_)
          ·
            refine c_seq ?_
            refine c_region ?_
            refine l_val (v := .int .i64 (311)) rfl rfl rfl (e_move) ?_
            refine l_val (v := .bool true) rfl rfl rfl (e_eql (a := (311 : Int)) (b := (311 : Int)) rfl rfl) ?_
            refine l_val (v := .bool true) rfl rfl rfl (e_move) ?_
            refine g_val (v := .pointer (some ⟨b24, 0, none⟩)) rfl rfl rfl rfl rfl (e_fieldPt (b := b24) (o := 0) rfl tf48) ?_
            refine g_val (v := .int .i64 (0)) rfl rfl rfl rfl rfl (e_load1 tf25 (v := .int .i64 (0)) rfl (k_pt 0 (cs := #[.int .i64 (0), .int .i64 (0), .slice none 0 0, .slice none 0 0, .int .i64 (0)]) (vs := [.int .i64 (0)]) rfl rfl)) ?_
            refine g_val (v := .bool true) rfl rfl rfl rfl rfl (e_eql (a := (0 : Int)) (b := (0 : Int)) rfl rfl) ?_
            refine l_val (v := .bool true) rfl rfl rfl (e_pick_t rfl) ?_
            refine l_val (v := .bool true) rfl rfl rfl (e_move) ?_
            refine g_val (v := .pointer (some ⟨b24, 3, none⟩)) rfl rfl rfl rfl rfl (e_fieldPt (b := b24) (o := 0) rfl tf64) ?_
            refine g_val (v := .slice none 0 0) rfl rfl rfl rfl rfl (e_load1 tf65 (v := .slice none 0 0) rfl (k_pt 0 (cs := #[.int .i64 (0), .int .i64 (0), .slice none 0 0, .slice none 0 0, .int .i64 (0)]) (vs := [.slice none 0 0]) rfl rfl)) ?_
            refine g_val (v := .int .i64 (0)) rfl rfl rfl rfl rfl (e_len (n := 0) rfl tf77) ?_
            refine g_val (v := .bool true) rfl rfl rfl rfl rfl (e_eql (a := (0 : Int)) (b := (0 : Int)) rfl rfl) ?_
            refine l_val (v := .bool true) rfl rfl rfl (e_pick_t rfl) ?_
            refine l_val (v := .bool true) rfl rfl rfl (e_move) ?_
            refine g_call rfl rfl rfl rfl rfl (cl_value (fst := []) (cap := []) (vs := []) (all := []) tf111 rfl rfl rfl) ?_
            intro w hw
            obtain ⟨β1, sb, kn, hw1, back⟩ := St.frame_all hw
            refine (awake_ok β1 w hw1).mono ?_
            rintro e w' ⟨rfl, hw'⟩
            refine ⟨_, rfl, _, back _ _ hw', ?_⟩
            clear hw hw1 hw' back kn sb
            refine l_val (v := .bool true) rfl rfl rfl (e_pick_t rfl) ?_
            refine l_val (v := .bool true) rfl rfl rfl (e_assign) ?_
            refine l_nil ?_
            refine f_then ?_
            refine c_ret ?_
            refine f_then_ret ?_
            refine ret1 Try.results3 (v := .bool true) rfl ?_
            intro w hw
            exact ⟨rfl, st_mask [false, false, false, false, false, false, false] rfl hw⟩
          ·
            exact absurd (by omega) hc26
        ·
          exact absurd (by omega) hc25
      ·
        obtain ⟨ti, hti⟩ : ∃ z, z = (⟨I3.epoch, I3.next - I3.recs.length + tw, I3.state, I3.recs.take tw, baseOf I3 + sizes (I3.recs.take tw)⟩ : KI) := ⟨_, rfl⟩
        rw [← hti] at hri
        have hte : ti.epoch = I3.epoch := by rw [hti]
        have htn : ti.next = I3.next - I3.recs.length + tw := by rw [hti]
        have htst : ti.state = I3.state := by rw [hti]
        have htr : ti.recs = I3.recs.take tw := by rw [hti]
        have hts : ti.size = baseOf I3 + sizes (I3.recs.take tw) := by rw [hti]
        have htw := (List.getElem?_eq_some_iff.1 ht1).1
        have htrl : ti.recs.length = tw := by rw [htr]; simp; omega
        have htsl : ti.state.length = I3.state.length := by rw [htst]
        refine c_region ?_
        refine l_val (v := .pointer (some ⟨S1, 0, none⟩)) rfl rfl rfl (e_move) ?_
        refine l_val (v := .pointer (some ⟨S1, 0, none⟩)) rfl rfl rfl (e_nil (a := ⟨S1, 0, none⟩) rfl) ?_
        refine l_val (v := .agg #[.slice pH8 (K2.head).length cH11, .slice pA9 (K2.a).length cA12, .slice pB10 ((K2.b.set (at_ % ((K2.b).length)) (c22 ^^^ (max by_ (1 : UInt8))))).length cB13, Ix (K2.power)]) rfl rfl rfl (e_load tf56 (cs := [.slice pH8 (K2.head).length cH11, .slice pA9 (K2.a).length cA12, .slice pB10 ((K2.b.set (at_ % ((K2.b).length)) (c22 ^^^ (max by_ (1 : UInt8))))).length cB13, Ix (K2.power)]) rfl (k_pt 0 (cs := #[.slice pH8 (K2.head).length cH11, .slice pA9 (K2.a).length cA12, .slice pB10 ((K2.b.set (at_ % ((K2.b).length)) (c22 ^^^ (max by_ (1 : UInt8))))).length cB13, Ix (K2.power)]) (vs := [.slice pH8 (K2.head).length cH11, .slice pA9 (K2.a).length cA12, .slice pB10 ((K2.b.set (at_ % ((K2.b).length)) (c22 ^^^ (max by_ (1 : UInt8))))).length cB13, Ix (K2.power)]) rfl rfl) rfl) ?_
        refine l_call rfl rfl rfl (cl_value (fst := []) (cap := []) (vs := [.agg #[.slice pH8 (K2.head).length cH11, .slice pA9 (K2.a).length cA12, .slice pB10 ((K2.b.set (at_ % ((K2.b).length)) (c22 ^^^ (max by_ (1 : UInt8))))).length cB13, Ix (K2.power)]]) (all := [.agg #[.slice pH8 (K2.head).length cH11, .slice pA9 (K2.a).length cA12, .slice pB10 ((K2.b.set (at_ % ((K2.b).length)) (c22 ^^^ (max by_ (1 : UInt8))))).length cB13, Ix (K2.power)]]) tf69 rfl rfl rfl) ?_
        intro w hw
        obtain ⟨β1, sb, kn, hw1, back⟩ := St.frame_all hw
        refine (readC_ok β1 w hw1 ({ K2 with b := K2.b.set (at_ % ((K2.b).length)) (c22 ^^^ (max by_ (1 : UInt8))) } : KS) _ _ _ (kn _ (Knows.of_res 1 rfl (Sl.mono U8R _ _) fun _ h => row_u8 h)) (kn _ (Knows.of_res 2 rfl (Sl.mono U8R _ _) fun _ h => row_u8 h)) (kn _ (Knows.of_res 3 rfl (Sl.mono U8R _ _) fun _ h => row_u8 h)) hok ti hri).mono ?_
        rintro e w' ⟨ps27, pr28, cs29, cr30, rfl, hw'⟩
        refine ⟨_, rfl, _, back _ _ hw', ?_⟩
        clear hw hw1 hw' back kn sb
        refine l_val (v := .tuple #[.agg #[Nx (ti.epoch), Nx (ti.next), .slice ps27 (ti.state).length cs29, .slice pr28 (ti.recs).length cr30, Nx (ti.size)], .int .i64 (0)]) rfl rfl rfl (e_move) ?_
        refine l_val (v := .agg #[Nx (ti.epoch), Nx (ti.next), .slice ps27 (ti.state).length cs29, .slice pr28 (ti.recs).length cr30, Nx (ti.size)]) rfl rfl rfl (e_extract (vs := #[.agg #[Nx (ti.epoch), Nx (ti.next), .slice ps27 (ti.state).length cs29, .slice pr28 (ti.recs).length cr30, Nx (ti.size)], .int .i64 (0)]) rfl rfl) ?_
        refine l_val (v := .int .i64 (0)) rfl rfl rfl (e_extract (vs := #[.agg #[Nx (ti.epoch), Nx (ti.next), .slice ps27 (ti.state).length cs29, .slice pr28 (ti.recs).length cr30, Nx (ti.size)], .int .i64 (0)]) rfl rfl) ?_
        refine l_mv rfl rfl rfl (m_alloc tf55) ?_
        rintro _ _ ⟨b31, rfl, rfl⟩
        refine l_mu rfl rfl (m_store 0 tf59 (b := b31) (o := 0) (T := 36) (cs := #[.int .i64 (0), .int .i64 (0), .slice none 0 0, .slice none 0 0, .int .i64 (0)]) (cs' := #[Nx (ti.epoch), Nx (ti.next), .slice ps27 (ti.state).length cs29, .slice pr28 (ti.recs).length cr30, Nx (ti.size)]) (v := .agg #[Nx (ti.epoch), Nx (ti.next), .slice ps27 (ti.state).length cs29, .slice pr28 (ti.recs).length cr30, Nx (ti.size)]) rfl rfl rfl rfl rfl rfl rfl) ?_
        refine l_val (v := .int .i64 (0)) rfl rfl rfl (e_assign) ?_
        refine l_nil ?_
        refine f_then ?_
        refine c_seq ?_
        refine c_region ?_
        refine l_val (v := .int .i64 (0)) rfl rfl rfl (e_assign) ?_
        refine l_nil ?_
        refine f_then ?_
        refine c_seq ?_
        refine c_seq ?_
        refine c_region ?_
        refine l_val (v := .pointer (some ⟨b7, 0, none⟩)) rfl rfl rfl (e_fieldPt (b := b7) (o := 0) rfl tf89) ?_
        refine l_val (v := Nx (C4.epoch)) rfl rfl rfl (e_load1 tf25 (v := Nx (C4.epoch)) rfl (k_pt 7 (cs := #[Nx (C4.epoch), Nx (C4.next), .string (C4.state), .slice p5 (C4.recs).length c6]) (vs := [Nx (C4.epoch)]) rfl rfl)) ?_
        refine l_val (v := .bool (decide ((0 : Int) < ((C4.epoch : Nat) : Int)))) rfl rfl rfl (e_gtr (a := ((C4.epoch : Nat) : Int)) (b := (0 : Int)) rfl rfl) ?_
        refine l_nil ?_
        refine f_then ?_
        refine c_if ((0 : Int) < ((C4.epoch : Nat) : Int)) rfl (fun hc32 => ?_) (fun hc32 => ?_)
        ·
          have hbs : baseOf I3 = 24 + I3.state.length := if_neg (by omega)
          refine c_seq ?_
          refine c_region ?_
          refine l_val (v := .pointer (some ⟨b7, 2, none⟩)) rfl rfl rfl (e_fieldPt (b := b7) (o := 0) rfl tf93) ?_
          refine l_val (v := .string (C4.state)) rfl rfl rfl (e_load1 tf6 (v := .string (C4.state)) rfl (k_pt 7 (cs := #[Nx (C4.epoch), Nx (C4.next), .string (C4.state), .slice p5 (C4.recs).length c6]) (vs := [.string (C4.state)]) rfl rfl)) ?_
          refine l_val (v := Nx ((C4.state).size)) rfl rfl rfl (e_len_s (s := C4.state) rfl tf7) ?_
          refine l_val (v := Nx (24 + ((C4.state).size))) rfl rfl rfl (e_add (a := (24 : Int)) (b := (((C4.state).size : Nat) : Int)) rfl rfl (i64n (by omega) (by omega))) ?_
          refine l_val (v := Nx (24 + ((C4.state).size))) rfl rfl rfl (e_assign) ?_
          refine l_nil ?_
          refine f_then ?_
          refine c_seq ?_
          refine c_region ?_
          refine l_val (v := Nx (at_ % ((K2.b).length))) rfl rfl rfl (e_move) ?_
          refine l_val (v := Nx (24 + ((C4.state).size))) rfl rfl rfl (e_move) ?_
          refine l_val (v := .bool (decide (((at_ % ((K2.b).length) : Nat) : Int) < ((24 + ((C4.state).size) : Nat) : Int)))) rfl rfl rfl (e_lss (a := ((at_ % ((K2.b).length) : Nat) : Int)) (b := ((24 + ((C4.state).size) : Nat) : Int)) rfl rfl) ?_
          refine l_nil ?_
          refine f_then ?_
          refine c_if (((at_ % ((K2.b).length) : Nat) : Int) < ((24 + ((C4.state).size) : Nat) : Int)) rfl (fun hc33 => ?_) (fun hc33 => ?_)
          ·
            exact absurd hc33 (by omega)
          ·
            refine c_skip ?_
            refine f_then ?_
            refine c_seq ?_
            refine c_rowcap 8 rfl (fun hcl hcm => ?_)
            refine c_region ?_
            refine l_val (v := .int .i64 (0)) rfl rfl rfl (e_assign) ?_
            refine l_nil ?_
            refine f_then ?_
            refine c_seq ?_
            refine c_block ?_
            refine c_loop (fun (wz : Nat) (f : Fm) (L : List Res) => (f 8 = .pointer (some ⟨b7, 0, none⟩) ∧ f 11 = Nx (at_ % ((K2.b).length)) ∧ f 12 = .pointer (some ⟨b31, 0, none⟩) ∧ f 13 = .int .i64 (0) ∧ f 14 = Nx (24 + ((C4.state).size) + sizes (I3.recs.take wz)) ∧ f 15 = Nx (wz)) ∧ L = [pt b31 (.cells #[Nx (ti.epoch), Nx (ti.next), .slice ps27 (ti.state).length cs29, .slice pr28 (ti.recs).length cr30, Nx (ti.size)] 36), row (.slice ps27 (ti.state).length cs29) 5 1 ((ti.state).length) (BX ti.state), recsR 30 pr28 cr30 ti.recs, pt S1 (.cells #[.slice pH8 (K2.head).length cH11, .slice pA9 (K2.a).length cA12, .slice pB10 ((K2.b.set (at_ % ((K2.b).length)) (c22 ^^^ (max by_ (1 : UInt8))))).length cB13, Ix (K2.power)] 32), row (.slice pH8 (K2.head).length cH11) 5 1 ((K2.head).length) (BX K2.head), row (.slice pA9 (K2.a).length cA12) 5 1 ((K2.a).length) (BX K2.a), row (.slice pB10 ((K2.b.set (at_ % ((K2.b).length)) (c22 ^^^ (max by_ (1 : UInt8))))).length cB13) 5 1 (((K2.b.set (at_ % ((K2.b).length)) (c22 ^^^ (max by_ (1 : UInt8))))).length) (BX (K2.b.set (at_ % ((K2.b).length)) (c22 ^^^ (max by_ (1 : UInt8))))), pt b7 (.cells #[Nx (C4.epoch), Nx (C4.next), .string (C4.state), .slice p5 (C4.recs).length c6] 27), row (.slice p5 (C4.recs).length c6) 9 1 ((C4.recs).length) (C4.recs.map (fun s : ByteArray => Value.string s))] ∧ (wz ≤ I3.recs.length ∧ 24 + ((C4.state).size) + sizes (I3.recs.take wz) ≤ (at_ % ((K2.b).length)))) (fun (wz : Nat) => I3.recs.length - wz) 0 ?_ ?_
            · exact ⟨⟨rfl, rfl, rfl, rfl, rfl, rfl⟩, rfl, ⟨by omega, by simp [sizes]; try omega⟩⟩
            rintro wz f0 L0 ⟨⟨hs8, hs11, hs12, hs13, hs14, hs15⟩, hL, ⟨hw1_, hw2_⟩⟩
            subst L0
            refine rebase (d := 8) hs8 ?_
            refine rebase (d := 11) hs11 ?_
            refine rebase (d := 12) hs12 ?_
            refine rebase (d := 13) hs13 ?_
            refine rebase (d := 14) hs14 ?_
            refine rebase (d := 15) hs15 ?_
            clear hs8 hs11 hs12 hs13 hs14 hs15
            have hsb := sizes_take_le (l := I3.recs) (w := wz)
            have hszr : baseOf I3 + sizes I3.recs ≤ 324 * 9 := by have := encI_len I3; have := hI.wf.size; have := hI.sz; omega
            refine c_seq ?_
            refine c_seq ?_
            refine c_region ?_
            refine l_val (v := Nx (wz)) rfl rfl rfl (e_move) ?_
            refine l_val (v := .pointer (some ⟨b7, 3, none⟩)) rfl rfl rfl (e_fieldPt (b := b7) (o := 0) rfl tf96) ?_
            refine l_val (v := .slice p5 (C4.recs).length c6) rfl rfl rfl (e_load1 tf97 (v := .slice p5 (C4.recs).length c6) rfl (k_pt 7 (cs := #[Nx (C4.epoch), Nx (C4.next), .string (C4.state), .slice p5 (C4.recs).length c6]) (vs := [.slice p5 (C4.recs).length c6]) rfl rfl)) ?_
            refine l_val (v := Nx ((C4.recs).length)) rfl rfl rfl (e_len (a := p5) (n := (C4.recs).length) (c := c6) rfl tf81) ?_
            refine l_val (v := .bool (decide (((wz : Nat) : Int) < (((C4.recs).length : Nat) : Int)))) rfl rfl rfl (e_lss (a := ((wz : Nat) : Int)) (b := (((C4.recs).length : Nat) : Int)) rfl rfl) ?_
            refine l_val (v := .bool (decide (((wz : Nat) : Int) < (((C4.recs).length : Nat) : Int)))) rfl rfl rfl (e_move) ?_
            refine l_split (s := 91) (p := ((wz : Nat) : Int) < (((C4.recs).length : Nat) : Int)) rfl (fun hg34 => ?_) (fun hg34 => ?_)
            ·
              refine g_val (v := Nx (at_ % ((K2.b).length))) rfl rfl rfl rfl rfl (e_move) ?_
              refine g_val (v := Nx (24 + ((C4.state).size) + sizes (I3.recs.take wz))) rfl rfl rfl rfl rfl (e_move) ?_
              refine g_val (v := Nx ((24 + ((C4.state).size) + sizes (I3.recs.take wz)) + 24)) rfl rfl rfl rfl rfl (e_add (a := ((24 + ((C4.state).size) + sizes (I3.recs.take wz) : Nat) : Int)) (b := (24 : Int)) rfl rfl (i64n (by omega) (by omega))) ?_
              refine g_val (v := .pointer (some ⟨b7, 3, none⟩)) rfl rfl rfl rfl rfl (e_fieldPt (b := b7) (o := 0) rfl tf96) ?_
              refine g_val (v := .slice p5 (C4.recs).length c6) rfl rfl rfl rfl rfl (e_load1 tf97 (v := .slice p5 (C4.recs).length c6) rfl (k_pt 7 (cs := #[Nx (C4.epoch), Nx (C4.next), .string (C4.state), .slice p5 (C4.recs).length c6]) (vs := [.slice p5 (C4.recs).length c6]) rfl rfl)) ?_
              refine g_val (v := Nx (wz)) rfl rfl rfl rfl rfl (e_move) ?_
              refine g_val (v := .pointer (some ((ba p5).add (wz * 1)))) rfl rfl rfl rfl rfl (e_indexRow 8 (j := wz) (len := (C4.recs).length) (cap := c6) (p := p5) rfl rfl tf78 (by omega) (by omega) rfl) ?_
              obtain ⟨c35, hc36⟩ : ∃ c, C4.recs[wz]? = some c := ⟨_, List.getElem?_eq_getElem (by omega)⟩
              obtain ⟨rw, hrw1, hrw2⟩ := recs_at hC hc36
              have hss := sizes_take_succ hrw1
              have hrw3 := (List.getElem?_eq_some_iff.1 hrw1).1
              have hsb2 := sizes_take_le (l := I3.recs) (w := wz + 1)
              refine g_val (v := .string (c35)) rfl rfl rfl rfl rfl (e_load1 tf6 (v := .string (c35)) rfl (k_row 8 (o := wz * 1) (us := [.string (c35)]) rfl (map_at (enc := fun s : ByteArray => Value.string s) hc36) (Nat.succ_pos _))) ?_
              refine g_val (v := Nx ((c35).size)) rfl rfl rfl rfl rfl (e_len_s (s := c35) rfl tf7) ?_
              refine g_val (v := Nx (((24 + ((C4.state).size) + sizes (I3.recs.take wz)) + 24) + ((c35).size))) rfl rfl rfl rfl rfl (e_add (a := (((24 + ((C4.state).size) + sizes (I3.recs.take wz)) + 24 : Nat) : Int)) (b := (((c35).size : Nat) : Int)) rfl rfl (i64n (by omega) (by omega))) ?_
              refine g_val (v := .bool (decide (((((24 + ((C4.state).size) + sizes (I3.recs.take wz)) + 24) + ((c35).size) : Nat) : Int) ≤ ((at_ % ((K2.b).length) : Nat) : Int)))) rfl rfl rfl rfl rfl (e_geq (a := ((at_ % ((K2.b).length) : Nat) : Int)) (b := ((((24 + ((C4.state).size) + sizes (I3.recs.take wz)) + 24) + ((c35).size) : Nat) : Int)) rfl rfl) ?_
              refine l_val (v := .bool (decide (((((24 + ((C4.state).size) + sizes (I3.recs.take wz)) + 24) + ((c35).size) : Nat) : Int) ≤ ((at_ % ((K2.b).length) : Nat) : Int)))) rfl rfl rfl (e_pick_t rfl) ?_
              refine l_nil ?_
              refine f_then ?_
              refine c_if (((((24 + ((C4.state).size) + sizes (I3.recs.take wz)) + 24) + ((c35).size) : Nat) : Int) ≤ ((at_ % ((K2.b).length) : Nat) : Int)) rfl (fun hc37 => ?_) (fun hc37 => ?_)
              ·
                refine c_skip ?_
                refine f_then ?_
                refine c_block ?_
                refine c_seq ?_
                refine c_region ?_
                refine l_val (v := Nx (24 + ((C4.state).size) + sizes (I3.recs.take wz))) rfl rfl rfl (e_move) ?_
                refine l_val (v := .pointer (some ⟨b7, 3, none⟩)) rfl rfl rfl (e_fieldPt (b := b7) (o := 0) rfl tf96) ?_
                refine l_val (v := .slice p5 (C4.recs).length c6) rfl rfl rfl (e_load1 tf97 (v := .slice p5 (C4.recs).length c6) rfl (k_pt 7 (cs := #[Nx (C4.epoch), Nx (C4.next), .string (C4.state), .slice p5 (C4.recs).length c6]) (vs := [.slice p5 (C4.recs).length c6]) rfl rfl)) ?_
                refine l_val (v := Nx (wz)) rfl rfl rfl (e_move) ?_
                refine l_val (v := .pointer (some ((ba p5).add (wz * 1)))) rfl rfl rfl (e_indexRow 8 (j := wz) (len := (C4.recs).length) (cap := c6) (p := p5) rfl rfl tf78 (by omega) (by omega) rfl) ?_
                refine l_val (v := .string (c35)) rfl rfl rfl (e_load1 tf6 (v := .string (c35)) rfl (k_row 8 (o := wz * 1) (us := [.string (c35)]) rfl (map_at (enc := fun s : ByteArray => Value.string s) hc36) (Nat.succ_pos _))) ?_
                refine l_val (v := Nx ((c35).size)) rfl rfl rfl (e_len_s (s := c35) rfl tf7) ?_
                refine l_val (v := Nx (24 + ((c35).size))) rfl rfl rfl (e_add (a := (24 : Int)) (b := (((c35).size : Nat) : Int)) rfl rfl (i64n (by omega) (by omega))) ?_
                refine l_val (v := Nx ((24 + ((C4.state).size) + sizes (I3.recs.take wz)) + (24 + ((c35).size)))) rfl rfl rfl (e_add (a := ((24 + ((C4.state).size) + sizes (I3.recs.take wz) : Nat) : Int)) (b := ((24 + ((c35).size) : Nat) : Int)) rfl rfl (i64n (by omega) (by omega))) ?_
                refine l_val (v := Nx ((24 + ((C4.state).size) + sizes (I3.recs.take wz)) + (24 + ((c35).size)))) rfl rfl rfl (e_assign) ?_
                refine l_nil ?_
                refine f_then ?_
                refine c_region ?_
                refine l_val (v := Nx (wz)) rfl rfl rfl (e_move) ?_
                refine l_val (v := Nx (wz + 1)) rfl rfl rfl (e_add (a := ((wz : Nat) : Int)) (b := (1 : Int)) rfl rfl (i64n (by omega) (by omega))) ?_
                refine l_val (v := Nx (wz + 1)) rfl rfl rfl (e_assign) ?_
                refine l_nil ?_
                refine f_block ?_
                exact f_cut ⟨wz + 1, ⟨⟨rfl, rfl, rfl, rfl, (congrArg (fun z : Nat => Nx z) (by omega)), rfl⟩, rfl, ⟨by omega, by omega⟩⟩, (show I3.recs.length - (wz + 1) < I3.recs.length - wz from by omega)⟩
              ·
                refine c_exit ?_
                refine f_then_exit ?_
                refine f_then_exit ?_
                refine f_exit ?_
                refine f_then ?_
                refine c_seq ?_
                have hwt : wz = tw := find_uniq (k := (at_ % ((K2.b).length)) - baseOf I3) hrw1 ht1 (by omega) (by omega) (by omega) (by omega)
                subst hwt
                refine c_any [⟨[], [], [0], [115], fun f => f 115 = .int .i64 (0)⟩, ⟨[0], [0], [], [116], fun f => f 116 = .bool true⟩, ⟨[0, 1], [1], [], [117], fun f => f 117 = .bool true⟩, ⟨[0, 1, 2], [2], [1], [118], fun f => f 118 = .pointer (some ⟨b31, 0, none⟩)⟩, ⟨[0, 1, 2, 3], [3, 2], [], [119], fun f => f 119 = Nx (ti.epoch)⟩, ⟨[0, 1, 2], [2], [2], [120], fun f => f 120 = .pointer (some ⟨b7, 0, none⟩)⟩, ⟨[0, 1, 2, 5], [5, 2], [], [121], fun f => f 121 = Nx (C4.epoch)⟩, ⟨[0, 1, 2, 3, 4, 5, 6], [4, 6, 2], [], [122], fun f => f 122 = .bool true⟩, ⟨[0, 1, 2, 3, 4, 5, 6, 7], [2, 7], [], [123], fun f => f 123 = .bool true⟩, ⟨[0, 1, 2, 3, 4, 5, 6, 7, 8], [8], [], [124], fun f => f 124 = .bool true⟩, ⟨[0, 1, 2, 3, 4, 5, 6, 7, 8, 9], [9], [1], [125], fun f => f 125 = .pointer (some ⟨b31, 4, none⟩)⟩, ⟨[0, 1, 2, 3, 4, 5, 6, 7, 8, 9, 10], [10, 9], [], [126], fun f => f 126 = Nx (ti.size)⟩, ⟨[0, 1, 2, 3, 4, 5, 6, 7, 8, 9], [9], [3], [127], fun f => f 127 = Nx (24 + ((C4.state).size) + sizes (I3.recs.take wz))⟩, ⟨[0, 1, 2, 3, 4, 5, 6, 7, 8, 9, 10, 11, 12], [11, 12, 9], [], [128], fun f => f 128 = .bool true⟩, ⟨[0, 1, 2, 3, 4, 5, 6, 7, 8, 9, 10, 11, 12, 13], [9, 13], [], [129], fun f => f 129 = .bool true⟩, ⟨[0, 1, 2, 3, 4, 5, 6, 7, 8, 9, 10, 11, 12, 13, 14], [14], [], [130], fun f => f 130 = .bool true⟩, ⟨[0, 1, 2, 3, 4, 5, 6, 7, 8, 9, 10, 11, 12, 13, 14, 15], [15], [1], [131], fun f => f 131 = .pointer (some ⟨b31, 2, none⟩)⟩, ⟨[0, 1, 2, 3, 4, 5, 6, 7, 8, 9, 10, 11, 12, 13, 14, 15, 16], [16, 15], [], [132], fun f => f 132 = .slice ps27 (ti.state).length cs29⟩, ⟨[0, 1, 2, 3, 4, 5, 6, 7, 8, 9, 10, 11, 12, 13, 14, 15, 16, 17], [17, 15], [], [133], fun f => f 133 = .string (str ti.state)⟩, ⟨[0, 1, 2, 3, 4, 5, 6, 7, 8, 9, 10, 11, 12, 13, 14, 15], [15], [2], [134], fun f => f 134 = .pointer (some ⟨b7, 2, none⟩)⟩, ⟨[0, 1, 2, 3, 4, 5, 6, 7, 8, 9, 10, 11, 12, 13, 14, 15, 19], [19, 15], [], [135], fun f => f 135 = .string (C4.state)⟩, ⟨[0, 1, 2, 3, 4, 5, 6, 7, 8, 9, 10, 11, 12, 13, 14, 15, 16, 17, 18, 19, 20], [18, 20, 15], [], [136], fun f => f 136 = .bool true⟩, ⟨[0, 1, 2, 3, 4, 5, 6, 7, 8, 9, 10, 11, 12, 13, 14, 15, 16, 17, 18, 19, 20, 21], [15, 21], [], [137], fun f => f 137 = .bool true⟩, ⟨[0, 1, 2, 3, 4, 5, 6, 7, 8, 9, 10, 11, 12, 13, 14, 15, 16, 17, 18, 19, 20, 21, 22], [22], [], [138], fun f => f 138 = .bool true⟩, ⟨[0, 1, 2, 3, 4, 5, 6, 7, 8, 9, 10, 11, 12, 13, 14, 15, 16, 17, 18, 19, 20, 21, 22, 23], [23], [1], [139], fun f => f 139 = .pointer (some ⟨b31, 3, none⟩)⟩, ⟨[0, 1, 2, 3, 4, 5, 6, 7, 8, 9, 10, 11, 12, 13, 14, 15, 16, 17, 18, 19, 20, 21, 22, 23, 24], [24, 23], [], [140], fun f => f 140 = .slice pr28 (ti.recs).length cr30⟩, ⟨[0, 1, 2, 3, 4, 5, 6, 7, 8, 9, 10, 11, 12, 13, 14, 15, 16, 17, 18, 19, 20, 21, 22, 23, 24, 25], [25, 23], [], [141], fun f => f 141 = .slice (sla (f 141)) (ti.recs.map str).length (slc (f 141))⟩, ⟨[0, 1, 2, 3, 4, 5, 6, 7, 8, 9, 10, 11, 12, 13, 14, 15, 16, 17, 18, 19, 20, 21, 22, 23], [23], [2], [142], fun f => f 142 = .pointer (some ⟨b7, 3, none⟩)⟩, ⟨[0, 1, 2, 3, 4, 5, 6, 7, 8, 9, 10, 11, 12, 13, 14, 15, 16, 17, 18, 19, 20, 21, 22, 23, 27], [27, 23], [], [143], fun f => f 143 = .slice p5 (C4.recs).length c6⟩, ⟨[0, 1, 2, 3, 4, 5, 6, 7, 8, 9, 10, 11, 12, 13, 14, 15, 16, 17, 18, 19, 20, 21, 22, 23], [23], [4], [144], fun f => f 144 = Nx (wz)⟩, ⟨[0, 1, 2, 3, 4, 5, 6, 7, 8, 9, 10, 11, 12, 13, 14, 15, 16, 17, 18, 19, 20, 21, 22, 23, 27, 28, 29], [28, 29, 23], [], [145], fun f => f 145 = .slice p5 (wz) c6⟩, ⟨[0, 1, 2, 3, 4, 5, 6, 7, 8, 9, 10, 11, 12, 13, 14, 15, 16, 17, 18, 19, 20, 21, 22, 23, 24, 25, 26, 27, 28, 29, 30], [26, 30, 23], [], [146], fun f => f 146 = .bool true⟩, ⟨[0, 1, 2, 3, 4, 5, 6, 7, 8, 9, 10, 11, 12, 13, 14, 15, 16, 17, 18, 19, 20, 21, 22, 23, 24, 25, 26, 27, 28, 29, 30, 31], [23, 31], [], [147], fun f => f 147 = .bool true⟩, ⟨[0, 1, 2, 3, 4, 5, 6, 7, 8, 9, 10, 11, 12, 13, 14, 15, 16, 17, 18, 19, 20, 21, 22, 23, 24, 25, 26, 27, 28, 29, 30, 31, 32], [32], [], [148], fun f => f 148 = .bool true⟩, ⟨[0, 1, 2, 3, 4, 5, 6, 7, 8, 9, 10, 11, 12, 13, 14, 15, 16, 17, 18, 19, 20, 21, 22, 23, 24, 25, 26, 27, 28, 29, 30, 31, 32, 33], [33], [1], [149], fun f => f 149 = .pointer (some ⟨b31, 1, none⟩)⟩, ⟨[0, 1, 2, 3, 4, 5, 6, 7, 8, 9, 10, 11, 12, 13, 14, 15, 16, 17, 18, 19, 20, 21, 22, 23, 24, 25, 26, 27, 28, 29, 30, 31, 32, 33, 34], [34, 33], [], [150], fun f => f 150 = Nx (ti.next)⟩, ⟨[0, 1, 2, 3, 4, 5, 6, 7, 8, 9, 10, 11, 12, 13, 14, 15, 16, 17, 18, 19, 20, 21, 22, 23, 24, 25, 26, 27, 28, 29, 30, 31, 32, 33], [33], [2], [151], fun f => f 151 = .pointer (some ⟨b7, 1, none⟩)⟩, ⟨[0, 1, 2, 3, 4, 5, 6, 7, 8, 9, 10, 11, 12, 13, 14, 15, 16, 17, 18, 19, 20, 21, 22, 23, 24, 25, 26, 27, 28, 29, 30, 31, 32, 33, 36], [36, 33], [], [152], fun f => f 152 = Nx (C4.next)⟩, ⟨[0, 1, 2, 3, 4, 5, 6, 7, 8, 9, 10, 11, 12, 13, 14, 15, 16, 17, 18, 19, 20, 21, 22, 23, 24, 25, 26, 27, 28, 29, 30, 31, 32, 33], [33], [2], [153], fun f => f 153 = .pointer (some ⟨b7, 3, none⟩)⟩, ⟨[0, 1, 2, 3, 4, 5, 6, 7, 8, 9, 10, 11, 12, 13, 14, 15, 16, 17, 18, 19, 20, 21, 22, 23, 24, 25, 26, 27, 28, 29, 30, 31, 32, 33, 38], [38, 33], [], [154], fun f => f 154 = .slice p5 (C4.recs).length c6⟩, ⟨[0, 1, 2, 3, 4, 5, 6, 7, 8, 9, 10, 11, 12, 13, 14, 15, 16, 17, 18, 19, 20, 21, 22, 23, 24, 25, 26, 27, 28, 29, 30, 31, 32, 33, 38, 39], [39, 33], [], [155], fun f => f 155 = Nx ((C4.recs).length)⟩, ⟨[0, 1, 2, 3, 4, 5, 6, 7, 8, 9, 10, 11, 12, 13, 14, 15, 16, 17, 18, 19, 20, 21, 22, 23, 24, 25, 26, 27, 28, 29, 30, 31, 32, 33, 36, 37, 38, 39, 40], [37, 40, 33], [], [156], fun f => f 156 = Ix (((C4.next : Nat) : Int) - (((C4.recs).length : Nat) : Int))⟩, ⟨[0, 1, 2, 3, 4, 5, 6, 7, 8, 9, 10, 11, 12, 13, 14, 15, 16, 17, 18, 19, 20, 21, 22, 23, 24, 25, 26, 27, 28, 29, 30, 31, 32, 33], [33], [4], [157], fun f => f 157 = Nx (wz)⟩, ⟨[0, 1, 2, 3, 4, 5, 6, 7, 8, 9, 10, 11, 12, 13, 14, 15, 16, 17, 18, 19, 20, 21, 22, 23, 24, 25, 26, 27, 28, 29, 30, 31, 32, 33, 36, 37, 38, 39, 40, 41, 42], [41, 42, 33], [], [158], fun f => f 158 = Ix ((((C4.next : Nat) : Int) - (((C4.recs).length : Nat) : Int)) + ((wz : Nat) : Int))⟩, ⟨[0, 1, 2, 3, 4, 5, 6, 7, 8, 9, 10, 11, 12, 13, 14, 15, 16, 17, 18, 19, 20, 21, 22, 23, 24, 25, 26, 27, 28, 29, 30, 31, 32, 33, 34, 35, 36, 37, 38, 39, 40, 41, 42, 43], [35, 43, 33], [], [159], fun f => f 159 = .bool true⟩, ⟨[0, 1, 2, 3, 4, 5, 6, 7, 8, 9, 10, 11, 12, 13, 14, 15, 16, 17, 18, 19, 20, 21, 22, 23, 24, 25, 26, 27, 28, 29, 30, 31, 32, 33, 34, 35, 36, 37, 38, 39, 40, 41, 42, 43, 44], [33, 44], [], [160], fun f => f 160 = .bool true⟩, ⟨[0, 1, 2, 3, 4, 5, 6, 7, 8, 9, 10, 11, 12, 13, 14, 15, 16, 17, 18, 19, 20, 21, 22, 23, 24, 25, 26, 27, 28, 29, 30, 31, 32, 33, 34, 35, 36, 37, 38, 39, 40, 41, 42, 43, 44, 45], [45], [], [161], fun f => f 161 = .bool true⟩, ⟨[0, 1, 2, 3, 4, 5, 6, 7, 8, 9, 10, 11, 12, 13, 14, 15, 16, 17, 18, 19, 20, 21, 22, 23, 24, 25, 26, 27, 28, 29, 30, 31, 32, 33, 34, 35, 36, 37, 38, 39, 40, 41, 42, 43, 44, 45, 46], [46], [], [162], fun f => f 162 = .bool true⟩, ⟨[0, 1, 2, 3, 4, 5, 6, 7, 8, 9, 10, 11, 12, 13, 14, 15, 16, 17, 18, 19, 20, 21, 22, 23, 24, 25, 26, 27, 28, 29, 30, 31, 32, 33, 34, 35, 36, 37, 38, 39, 40, 41, 42, 43, 44, 45, 46, 47], [46, 47], [], [163], fun f => f 163 = .bool true⟩, ⟨[0, 1, 2, 3, 4, 5, 6, 7, 8, 9, 10, 11, 12, 13, 14, 15, 16, 17, 18, 19, 20, 21, 22, 23, 24, 25, 26, 27, 28, 29, 30, 31, 32, 33, 34, 35, 36, 37, 38, 39, 40, 41, 42, 43, 44, 45, 46, 47, 48], [48], [], [6], fun f => f 6 = .bool true⟩] [⟨none, none, [4, 11, 17, 25, 35], [], fun _ => pt b31 (.cells #[Nx (ti.epoch), Nx (ti.next), .slice ps27 (ti.state).length cs29, .slice pr28 (ti.recs).length cr30, Nx (ti.size)] 36)⟩, ⟨none, none, [18], [], fun _ => row (.slice ps27 (ti.state).length cs29) 5 1 ((ti.state).length) (BX ti.state)⟩, ⟨none, none, [26], [], fun _ => recsR 30 pr28 cr30 ti.recs⟩, ⟨none, none, [], [], fun _ => pt S1 (.cells #[.slice pH8 (K2.head).length cH11, .slice pA9 (K2.a).length cA12, .slice pB10 ((K2.b.set (at_ % ((K2.b).length)) (c22 ^^^ (max by_ (1 : UInt8))))).length cB13, Ix (K2.power)] 32)⟩, ⟨none, none, [], [], fun _ => row (.slice pH8 (K2.head).length cH11) 5 1 ((K2.head).length) (BX K2.head)⟩, ⟨none, none, [], [], fun _ => row (.slice pA9 (K2.a).length cA12) 5 1 ((K2.a).length) (BX K2.a)⟩, ⟨none, none, [], [], fun _ => row (.slice pB10 ((K2.b.set (at_ % ((K2.b).length)) (c22 ^^^ (max by_ (1 : UInt8))))).length cB13) 5 1 (((K2.b.set (at_ % ((K2.b).length)) (c22 ^^^ (max by_ (1 : UInt8))))).length) (BX (K2.b.set (at_ % ((K2.b).length)) (c22 ^^^ (max by_ (1 : UInt8)))))⟩, ⟨none, none, [6, 20, 28, 37, 39], [], fun _ => pt b7 (.cells #[Nx (C4.epoch), Nx (C4.next), .string (C4.state), .slice p5 (C4.recs).length c6] 27)⟩, ⟨none, none, [31], [], fun _ => row (.slice p5 (C4.recs).length c6) 9 1 ((C4.recs).length) (C4.recs.map (fun s : ByteArray => Value.string s))⟩, ⟨(some 26), none, [31], [141], fun f => row (.slice (sla (f 141)) (ti.recs.map str).length (slc (f 141))) 9 1 ((ti.recs.map str).length) ((ti.recs.map str).map (fun s : ByteArray => Value.string s))⟩] [(13, .int .i64 (0)), (12, .pointer (some ⟨b31, 0, none⟩)), (8, .pointer (some ⟨b7, 0, none⟩)), (14, Nx (24 + ((C4.state).size) + sizes (I3.recs.take wz))), (15, Nx (wz))] [] [] (by kernel_rfl) (by kernel_rfl) (by kernel_rfl) (by kernel_rfl) rfl ⟨rfl, rfl, rfl, rfl, rfl, trivial⟩ ⟨?_, ?_, ?_, ?_, ?_, ?_, ?_, ?_, ?_, ?_, ?_, ?_, ?_, ?_, ?_, ?_, ?_, ?_, ?_, ?_, ?_, ?_, ?_, ?_, ?_, ?_, ?_, ?_, ?_, ?_, ?_, ?_, ?_, ?_, ?_, ?_, ?_, ?_, ?_, ?_, ?_, ?_, ?_, ?_, ?_, ?_, ?_, ?_, ?_, ?_, trivial⟩ ?_
                · rintro f M - ⟨i0, -⟩
                  have hs13 : f 13 = .int .i64 (0) := i0
                  refine ob_start (L' := M) (by rfl) (up_cons rfl hs13) ?_
                  refine l_val (v := .int .i64 (0)) rfl rfl rfl (e_move) ?_
                  refine l_nil ?_
                  exact f_owes_d (up_cons rfl hs13) rfl (List.Perm.refl _)
                · rintro f M ⟨k0, -⟩ -
                  have hs115 : f 115 = .int .i64 (0) := k0
                  refine ob_start (L' := M) (by rfl) (up_cons rfl hs115) ?_
                  refine l_val (v := .bool true) rfl rfl rfl (e_eql (a := (0 : Int)) (b := (0 : Int)) rfl rfl) ?_
                  refine l_nil ?_
                  exact f_owes_d (up_cons rfl hs115) rfl (List.Perm.refl _)
                · rintro f M ⟨k0, -⟩ -
                  have hs116 : f 116 = .bool true := k0
                  refine ob_start (L' := M) (by rfl) (up_cons rfl hs116) ?_
                  refine l_val (v := .bool true) rfl rfl rfl (e_move) ?_
                  refine l_nil ?_
                  exact f_owes_d (up_cons rfl hs116) rfl (List.Perm.refl _)
                · rintro f M ⟨k0, -⟩ ⟨i0, -⟩
                  have hs12 : f 12 = .pointer (some ⟨b31, 0, none⟩) := i0
                  have hs117 : f 117 = .bool true := k0
                  refine ob_start (L' := M) (by rfl) (up_cons (up_cons rfl hs12) hs117) ?_
                  refine g_val (v := .pointer (some ⟨b31, 0, none⟩)) rfl rfl rfl rfl rfl (e_fieldPt (b := b31) (o := 0) rfl tf48) ?_
                  refine l_nil ?_
                  exact f_owes_d (up_cons (up_cons rfl hs12) hs117) rfl (List.Perm.refl _)
                · rintro f M ⟨k0, k1, -⟩ -
                  have hs118 : f 118 = .pointer (some ⟨b31, 0, none⟩) := k0
                  have hs117 : f 117 = .bool true := k1
                  refine ob_start (L' := pt b31 (.cells #[Nx (ti.epoch), Nx (ti.next), .slice ps27 (ti.state).length cs29, .slice pr28 (ti.recs).length cr30, Nx (ti.size)] 36) :: M) (by rfl) (up_cons (up_cons rfl hs118) hs117) ?_
                  refine g_val (v := Nx (ti.epoch)) rfl rfl rfl rfl rfl (e_load1 tf25 (v := Nx (ti.epoch)) rfl (k_pt 0 (cs := #[Nx (ti.epoch), Nx (ti.next), .slice ps27 (ti.state).length cs29, .slice pr28 (ti.recs).length cr30, Nx (ti.size)]) (vs := [Nx (ti.epoch)]) rfl rfl)) ?_
                  refine l_nil ?_
                  exact f_owes_d (up_cons (up_cons rfl hs118) hs117) rfl (perm_front 0 rfl)
                · rintro f M ⟨k0, -⟩ ⟨i0, -⟩
                  have hs8 : f 8 = .pointer (some ⟨b7, 0, none⟩) := i0
                  have hs117 : f 117 = .bool true := k0
                  refine ob_start (L' := M) (by rfl) (up_cons (up_cons rfl hs8) hs117) ?_
                  refine g_val (v := .pointer (some ⟨b7, 0, none⟩)) rfl rfl rfl rfl rfl (e_fieldPt (b := b7) (o := 0) rfl tf89) ?_
                  refine l_nil ?_
                  exact f_owes_d (up_cons (up_cons rfl hs8) hs117) rfl (List.Perm.refl _)
                · rintro f M ⟨k0, k1, -⟩ -
                  have hs120 : f 120 = .pointer (some ⟨b7, 0, none⟩) := k0
                  have hs117 : f 117 = .bool true := k1
                  refine ob_start (L' := pt b7 (.cells #[Nx (C4.epoch), Nx (C4.next), .string (C4.state), .slice p5 (C4.recs).length c6] 27) :: M) (by rfl) (up_cons (up_cons rfl hs120) hs117) ?_
                  refine g_val (v := Nx (C4.epoch)) rfl rfl rfl rfl rfl (e_load1 tf25 (v := Nx (C4.epoch)) rfl (k_pt 0 (cs := #[Nx (C4.epoch), Nx (C4.next), .string (C4.state), .slice p5 (C4.recs).length c6]) (vs := [Nx (C4.epoch)]) rfl rfl)) ?_
                  refine l_nil ?_
                  exact f_owes_d (up_cons (up_cons rfl hs120) hs117) rfl (perm_front 0 rfl)
                · rintro f M ⟨k0, k1, k2, -⟩ -
                  have hs119 : f 119 = Nx (ti.epoch) := k0
                  have hs121 : f 121 = Nx (C4.epoch) := k1
                  have hs117 : f 117 = .bool true := k2
                  refine ob_start (L' := M) (by rfl) (up_cons (up_cons (up_cons rfl hs119) hs121) hs117) ?_
                  refine g_val (v := .bool true) rfl rfl rfl rfl rfl ((ev_t (by omega) (e_eql (a := ((ti.epoch : Nat) : Int)) (b := ((C4.epoch : Nat) : Int)) rfl rfl))) ?_
                  refine l_nil ?_
                  exact f_owes_d (up_cons (up_cons (up_cons rfl hs119) hs121) hs117) rfl (List.Perm.refl _)
                · rintro f M ⟨k0, k1, -⟩ -
                  have hs117 : f 117 = .bool true := k0
                  have hs122 : f 122 = .bool true := k1
                  refine ob_start (L' := M) (by rfl) (up_cons (up_cons rfl hs117) hs122) ?_
                  refine l_val (v := .bool true) rfl rfl rfl (e_pick_t rfl) ?_
                  refine l_nil ?_
                  exact f_owes_d (up_cons (up_cons rfl hs117) hs122) rfl (List.Perm.refl _)
                · rintro f M ⟨k0, -⟩ -
                  have hs123 : f 123 = .bool true := k0
                  refine ob_start (L' := M) (by rfl) (up_cons rfl hs123) ?_
                  refine l_val (v := .bool true) rfl rfl rfl (e_move) ?_
                  refine l_nil ?_
                  exact f_owes_d (up_cons rfl hs123) rfl (List.Perm.refl _)
                · rintro f M ⟨k0, -⟩ ⟨i0, -⟩
                  have hs12 : f 12 = .pointer (some ⟨b31, 0, none⟩) := i0
                  have hs124 : f 124 = .bool true := k0
                  refine ob_start (L' := M) (by rfl) (up_cons (up_cons rfl hs12) hs124) ?_
                  refine g_val (v := .pointer (some ⟨b31, 4, none⟩)) rfl rfl rfl rfl rfl (e_fieldPt (b := b31) (o := 0) rfl tf50) ?_
                  refine l_nil ?_
                  exact f_owes_d (up_cons (up_cons rfl hs12) hs124) rfl (List.Perm.refl _)
                · rintro f M ⟨k0, k1, -⟩ -
                  have hs125 : f 125 = .pointer (some ⟨b31, 4, none⟩) := k0
                  have hs124 : f 124 = .bool true := k1
                  refine ob_start (L' := pt b31 (.cells #[Nx (ti.epoch), Nx (ti.next), .slice ps27 (ti.state).length cs29, .slice pr28 (ti.recs).length cr30, Nx (ti.size)] 36) :: M) (by rfl) (up_cons (up_cons rfl hs125) hs124) ?_
                  refine g_val (v := Nx (ti.size)) rfl rfl rfl rfl rfl (e_load1 tf25 (v := Nx (ti.size)) rfl (k_pt 0 (cs := #[Nx (ti.epoch), Nx (ti.next), .slice ps27 (ti.state).length cs29, .slice pr28 (ti.recs).length cr30, Nx (ti.size)]) (vs := [Nx (ti.size)]) rfl rfl)) ?_
                  refine l_nil ?_
                  exact f_owes_d (up_cons (up_cons rfl hs125) hs124) rfl (perm_front 0 rfl)
                · rintro f M ⟨k0, -⟩ ⟨i0, -⟩
                  have hs14 : f 14 = Nx (24 + ((C4.state).size) + sizes (I3.recs.take wz)) := i0
                  have hs124 : f 124 = .bool true := k0
                  refine ob_start (L' := M) (by rfl) (up_cons (up_cons rfl hs14) hs124) ?_
                  refine g_val (v := Nx (24 + ((C4.state).size) + sizes (I3.recs.take wz))) rfl rfl rfl rfl rfl (e_move) ?_
                  refine l_nil ?_
                  exact f_owes_d (up_cons (up_cons rfl hs14) hs124) rfl (List.Perm.refl _)
                · rintro f M ⟨k0, k1, k2, -⟩ -
                  have hs126 : f 126 = Nx (ti.size) := k0
                  have hs127 : f 127 = Nx (24 + ((C4.state).size) + sizes (I3.recs.take wz)) := k1
                  have hs124 : f 124 = .bool true := k2
                  refine ob_start (L' := M) (by rfl) (up_cons (up_cons (up_cons rfl hs126) hs127) hs124) ?_
                  refine g_val (v := .bool true) rfl rfl rfl rfl rfl ((ev_t (by omega) (e_eql (a := ((ti.size : Nat) : Int)) (b := ((24 + ((C4.state).size) + sizes (I3.recs.take wz) : Nat) : Int)) rfl rfl))) ?_
                  refine l_nil ?_
                  exact f_owes_d (up_cons (up_cons (up_cons rfl hs126) hs127) hs124) rfl (List.Perm.refl _)
                · rintro f M ⟨k0, k1, -⟩ -
                  have hs124 : f 124 = .bool true := k0
                  have hs128 : f 128 = .bool true := k1
                  refine ob_start (L' := M) (by rfl) (up_cons (up_cons rfl hs124) hs128) ?_
                  refine l_val (v := .bool true) rfl rfl rfl (e_pick_t rfl) ?_
                  refine l_nil ?_
                  exact f_owes_d (up_cons (up_cons rfl hs124) hs128) rfl (List.Perm.refl _)
                · rintro f M ⟨k0, -⟩ -
                  have hs129 : f 129 = .bool true := k0
                  refine ob_start (L' := M) (by rfl) (up_cons rfl hs129) ?_
                  refine l_val (v := .bool true) rfl rfl rfl (e_move) ?_
                  refine l_nil ?_
                  exact f_owes_d (up_cons rfl hs129) rfl (List.Perm.refl _)
                · rintro f M ⟨k0, -⟩ ⟨i0, -⟩
                  have hs12 : f 12 = .pointer (some ⟨b31, 0, none⟩) := i0
                  have hs130 : f 130 = .bool true := k0
                  refine ob_start (L' := M) (by rfl) (up_cons (up_cons rfl hs12) hs130) ?_
                  refine g_val (v := .pointer (some ⟨b31, 2, none⟩)) rfl rfl rfl rfl rfl (e_fieldPt (b := b31) (o := 0) rfl tf63) ?_
                  refine l_nil ?_
                  exact f_owes_d (up_cons (up_cons rfl hs12) hs130) rfl (List.Perm.refl _)
                · rintro f M ⟨k0, k1, -⟩ -
                  have hs131 : f 131 = .pointer (some ⟨b31, 2, none⟩) := k0
                  have hs130 : f 130 = .bool true := k1
                  refine ob_start (L' := pt b31 (.cells #[Nx (ti.epoch), Nx (ti.next), .slice ps27 (ti.state).length cs29, .slice pr28 (ti.recs).length cr30, Nx (ti.size)] 36) :: M) (by rfl) (up_cons (up_cons rfl hs131) hs130) ?_
                  refine g_val (v := .slice ps27 (ti.state).length cs29) rfl rfl rfl rfl rfl (e_load1 tf21 (v := .slice ps27 (ti.state).length cs29) rfl (k_pt 0 (cs := #[Nx (ti.epoch), Nx (ti.next), .slice ps27 (ti.state).length cs29, .slice pr28 (ti.recs).length cr30, Nx (ti.size)]) (vs := [.slice ps27 (ti.state).length cs29]) rfl rfl)) ?_
                  refine l_nil ?_
                  exact f_owes_d (up_cons (up_cons rfl hs131) hs130) rfl (perm_front 0 rfl)
                · rintro f M ⟨k0, k1, -⟩ -
                  have hs132 : f 132 = .slice ps27 (ti.state).length cs29 := k0
                  have hs130 : f 130 = .bool true := k1
                  refine ob_start (L' := row (.slice ps27 (ti.state).length cs29) 5 1 ((ti.state).length) (BX ti.state) :: M) (by rfl) (up_cons (up_cons rfl hs132) hs130) ?_
                  refine g_val (v := .string (str ti.state)) rfl rfl rfl rfl rfl (e_bytesStr (a := ps27) (bs := ti.state) (m := (ti.state).length) (c := cs29) rfl (by first | rfl | simp) tf11 tf8 tf7 (k_rowE 0 rfl)) ?_
                  refine l_nil ?_
                  exact f_owes_d (up_cons (up_cons rfl hs132) hs130) rfl (perm_front 0 rfl)
                · rintro f M ⟨k0, -⟩ ⟨i0, -⟩
                  have hs8 : f 8 = .pointer (some ⟨b7, 0, none⟩) := i0
                  have hs130 : f 130 = .bool true := k0
                  refine ob_start (L' := M) (by rfl) (up_cons (up_cons rfl hs8) hs130) ?_
                  refine g_val (v := .pointer (some ⟨b7, 2, none⟩)) rfl rfl rfl rfl rfl (e_fieldPt (b := b7) (o := 0) rfl tf93) ?_
                  refine l_nil ?_
                  exact f_owes_d (up_cons (up_cons rfl hs8) hs130) rfl (List.Perm.refl _)
                · rintro f M ⟨k0, k1, -⟩ -
                  have hs134 : f 134 = .pointer (some ⟨b7, 2, none⟩) := k0
                  have hs130 : f 130 = .bool true := k1
                  refine ob_start (L' := pt b7 (.cells #[Nx (C4.epoch), Nx (C4.next), .string (C4.state), .slice p5 (C4.recs).length c6] 27) :: M) (by rfl) (up_cons (up_cons rfl hs134) hs130) ?_
                  refine g_val (v := .string (C4.state)) rfl rfl rfl rfl rfl (e_load1 tf6 (v := .string (C4.state)) rfl (k_pt 0 (cs := #[Nx (C4.epoch), Nx (C4.next), .string (C4.state), .slice p5 (C4.recs).length c6]) (vs := [.string (C4.state)]) rfl rfl)) ?_
                  refine l_nil ?_
                  exact f_owes_d (up_cons (up_cons rfl hs134) hs130) rfl (perm_front 0 rfl)
                · rintro f M ⟨k0, k1, k2, -⟩ -
                  have hs133 : f 133 = .string (str ti.state) := k0
                  have hs135 : f 135 = .string (C4.state) := k1
                  have hs130 : f 130 = .bool true := k2
                  refine ob_start (L' := M) (by rfl) (up_cons (up_cons (up_cons rfl hs133) hs135) hs130) ?_
                  refine g_val (v := .bool true) rfl rfl rfl rfl rfl ((ev_t (by rw [htst]; exact hC.2.2.1) (e_eql_s (a := (str ti.state)) (b := C4.state) rfl rfl))) ?_
                  refine l_nil ?_
                  exact f_owes_d (up_cons (up_cons (up_cons rfl hs133) hs135) hs130) rfl (List.Perm.refl _)
                · rintro f M ⟨k0, k1, -⟩ -
                  have hs130 : f 130 = .bool true := k0
                  have hs136 : f 136 = .bool true := k1
                  refine ob_start (L' := M) (by rfl) (up_cons (up_cons rfl hs130) hs136) ?_
                  refine l_val (v := .bool true) rfl rfl rfl (e_pick_t rfl) ?_
                  refine l_nil ?_
                  exact f_owes_d (up_cons (up_cons rfl hs130) hs136) rfl (List.Perm.refl _)
                · rintro f M ⟨k0, -⟩ -
                  have hs137 : f 137 = .bool true := k0
                  refine ob_start (L' := M) (by rfl) (up_cons rfl hs137) ?_
                  refine l_val (v := .bool true) rfl rfl rfl (e_move) ?_
                  refine l_nil ?_
                  exact f_owes_d (up_cons rfl hs137) rfl (List.Perm.refl _)
                · rintro f M ⟨k0, -⟩ ⟨i0, -⟩
                  have hs12 : f 12 = .pointer (some ⟨b31, 0, none⟩) := i0
                  have hs138 : f 138 = .bool true := k0
                  refine ob_start (L' := M) (by rfl) (up_cons (up_cons rfl hs12) hs138) ?_
                  refine g_val (v := .pointer (some ⟨b31, 3, none⟩)) rfl rfl rfl rfl rfl (e_fieldPt (b := b31) (o := 0) rfl tf64) ?_
                  refine l_nil ?_
                  exact f_owes_d (up_cons (up_cons rfl hs12) hs138) rfl (List.Perm.refl _)
                · rintro f M ⟨k0, k1, -⟩ -
                  have hs139 : f 139 = .pointer (some ⟨b31, 3, none⟩) := k0
                  have hs138 : f 138 = .bool true := k1
                  refine ob_start (L' := pt b31 (.cells #[Nx (ti.epoch), Nx (ti.next), .slice ps27 (ti.state).length cs29, .slice pr28 (ti.recs).length cr30, Nx (ti.size)] 36) :: M) (by rfl) (up_cons (up_cons rfl hs139) hs138) ?_
                  refine g_val (v := .slice pr28 (ti.recs).length cr30) rfl rfl rfl rfl rfl (e_load1 tf65 (v := .slice pr28 (ti.recs).length cr30) rfl (k_pt 0 (cs := #[Nx (ti.epoch), Nx (ti.next), .slice ps27 (ti.state).length cs29, .slice pr28 (ti.recs).length cr30, Nx (ti.size)]) (vs := [.slice pr28 (ti.recs).length cr30]) rfl rfl)) ?_
                  refine l_nil ?_
                  exact f_owes_d (up_cons (up_cons rfl hs139) hs138) rfl (perm_front 0 rfl)
                · rintro f M ⟨k0, k1, -⟩ -
                  have hs140 : f 140 = .slice pr28 (ti.recs).length cr30 := k0
                  have hs138 : f 138 = .bool true := k1
                  refine ob_start (L' := recsR 30 pr28 cr30 ti.recs :: M) (by rfl) (up_cons (up_cons rfl hs140) hs138) ?_
                  refine g_call rfl rfl rfl rfl rfl (cl_value (fst := []) (cap := []) (vs := [.slice pr28 (ti.recs).length cr30]) (all := [.slice pr28 (ti.recs).length cr30]) tf95 rfl rfl rfl) ?_
                  intro w hw
                  obtain ⟨β1, sb, kn, hw1, back⟩ := St.frame_all hw
                  refine (text_ok β1 w hw1 ti.recs _ (by omega) (kn _ (Knows.of_res 0 rfl (Sl.mono BsR _ _) fun _ h => recs_sl h))).mono ?_
                  rintro e w' ⟨p40, c41, rfl, hw'⟩
                  refine ⟨_, rfl, _, back _ _ hw', ?_⟩
                  clear hw hw1 hw' back kn sb
                  refine l_nil ?_
                  exact f_owes_d (up_cons (up_cons rfl hs140) hs138) rfl ((perm_front 0 rfl).trans (perm_front 1 rfl))
                · rintro f M ⟨k0, -⟩ ⟨i0, -⟩
                  have hs8 : f 8 = .pointer (some ⟨b7, 0, none⟩) := i0
                  have hs138 : f 138 = .bool true := k0
                  refine ob_start (L' := M) (by rfl) (up_cons (up_cons rfl hs8) hs138) ?_
                  refine g_val (v := .pointer (some ⟨b7, 3, none⟩)) rfl rfl rfl rfl rfl (e_fieldPt (b := b7) (o := 0) rfl tf96) ?_
                  refine l_nil ?_
                  exact f_owes_d (up_cons (up_cons rfl hs8) hs138) rfl (List.Perm.refl _)
                · rintro f M ⟨k0, k1, -⟩ -
                  have hs142 : f 142 = .pointer (some ⟨b7, 3, none⟩) := k0
                  have hs138 : f 138 = .bool true := k1
                  refine ob_start (L' := pt b7 (.cells #[Nx (C4.epoch), Nx (C4.next), .string (C4.state), .slice p5 (C4.recs).length c6] 27) :: M) (by rfl) (up_cons (up_cons rfl hs142) hs138) ?_
                  refine g_val (v := .slice p5 (C4.recs).length c6) rfl rfl rfl rfl rfl (e_load1 tf97 (v := .slice p5 (C4.recs).length c6) rfl (k_pt 0 (cs := #[Nx (C4.epoch), Nx (C4.next), .string (C4.state), .slice p5 (C4.recs).length c6]) (vs := [.slice p5 (C4.recs).length c6]) rfl rfl)) ?_
                  refine l_nil ?_
                  exact f_owes_d (up_cons (up_cons rfl hs142) hs138) rfl (perm_front 0 rfl)
                · rintro f M ⟨k0, -⟩ ⟨i0, -⟩
                  have hs15 : f 15 = Nx (wz) := i0
                  have hs138 : f 138 = .bool true := k0
                  refine ob_start (L' := M) (by rfl) (up_cons (up_cons rfl hs15) hs138) ?_
                  refine g_val (v := Nx (wz)) rfl rfl rfl rfl rfl (e_move) ?_
                  refine l_nil ?_
                  exact f_owes_d (up_cons (up_cons rfl hs15) hs138) rfl (List.Perm.refl _)
                · rintro f M ⟨k0, k1, k2, -⟩ -
                  have hs143 : f 143 = .slice p5 (C4.recs).length c6 := k0
                  have hs144 : f 144 = Nx (wz) := k1
                  have hs138 : f 138 = .bool true := k2
                  refine ob_start (L' := M) (by rfl) (up_cons (up_cons (up_cons rfl hs143) hs144) hs138) ?_
                  refine g_val (v := .slice p5 (wz) c6) rfl rfl rfl rfl rfl (e_slice_hi (a := p5) (len := (C4.recs).length) (cap := c6) (h := wz) tf78 rfl rfl (by omega)) ?_
                  refine l_nil ?_
                  exact f_owes_d (up_cons (up_cons (up_cons rfl hs143) hs144) hs138) rfl (List.Perm.refl _)
                · rintro f M ⟨k0, k1, k2, -⟩ -
                  have hs141 : f 141 = .slice (sla (f 141)) (ti.recs.map str).length (slc (f 141)) := k0
                  have hs145 : f 145 = .slice p5 (wz) c6 := k1
                  have hs138 : f 138 = .bool true := k2
                  refine ob_start (L' := row (.slice p5 (C4.recs).length c6) 9 1 ((C4.recs).length) (C4.recs.map (fun s : ByteArray => Value.string s)) :: row (.slice (sla (f 141)) (ti.recs.map str).length (slc (f 141))) 9 1 ((ti.recs.map str).length) ((ti.recs.map str).map (fun s : ByteArray => Value.string s)) :: M) (by rfl) (up_cons (up_cons (up_cons rfl hs141) hs145) hs138) ?_
                  refine g_call rfl rfl rfl rfl rfl (cl_value (fst := []) (cap := []) (vs := [.slice (sla (f 141)) (ti.recs.map str).length (slc (f 141)), .slice p5 (wz) c6]) (all := [.slice (sla (f 141)) (ti.recs.map str).length (slc (f 141)), .slice p5 (wz) c6]) tf98 rfl rfl rfl) ?_
                  intro w hw
                  obtain ⟨β1, sb, kn, hw1, back⟩ := St.frame_all hw
                  refine (samet_ok β1 w hw1 (ti.recs.map str) (C4.recs.take wz) _ _ (kn _ (Knows.of_res 1 rfl (Sl.mono StrR _ _) fun _ h => row_str h)) (kn _ (Knows.of_res 0 rfl (Sl.mono StrR _ _) fun _ h => row_str_take h (by omega)))).mono ?_
                  rintro e w' ⟨rfl, hw'⟩
                  refine ⟨_, rfl, _, back _ _ hw', ?_⟩
                  clear hw hw1 hw' back kn sb
                  refine l_nil ?_
                  exact f_owes_d (up_cons (up_cons (up_cons rfl hs141) hs145) hs138) (congrArg Value.bool (decide_eq_true (by rw [htr, List.map_take, hC.2.2.2]))) ((perm_front 1 rfl).trans (perm_front 1 rfl))
                · rintro f M ⟨k0, k1, -⟩ -
                  have hs138 : f 138 = .bool true := k0
                  have hs146 : f 146 = .bool true := k1
                  refine ob_start (L' := M) (by rfl) (up_cons (up_cons rfl hs138) hs146) ?_
                  refine l_val (v := .bool true) rfl rfl rfl (e_pick_t rfl) ?_
                  refine l_nil ?_
                  exact f_owes_d (up_cons (up_cons rfl hs138) hs146) rfl (List.Perm.refl _)
                · rintro f M ⟨k0, -⟩ -
                  have hs147 : f 147 = .bool true := k0
                  refine ob_start (L' := M) (by rfl) (up_cons rfl hs147) ?_
                  refine l_val (v := .bool true) rfl rfl rfl (e_move) ?_
                  refine l_nil ?_
                  exact f_owes_d (up_cons rfl hs147) rfl (List.Perm.refl _)
                · rintro f M ⟨k0, -⟩ ⟨i0, -⟩
                  have hs12 : f 12 = .pointer (some ⟨b31, 0, none⟩) := i0
                  have hs148 : f 148 = .bool true := k0
                  refine ob_start (L' := M) (by rfl) (up_cons (up_cons rfl hs12) hs148) ?_
                  refine g_val (v := .pointer (some ⟨b31, 1, none⟩)) rfl rfl rfl rfl rfl (e_fieldPt (b := b31) (o := 0) rfl tf53) ?_
                  refine l_nil ?_
                  exact f_owes_d (up_cons (up_cons rfl hs12) hs148) rfl (List.Perm.refl _)
                · rintro f M ⟨k0, k1, -⟩ -
                  have hs149 : f 149 = .pointer (some ⟨b31, 1, none⟩) := k0
                  have hs148 : f 148 = .bool true := k1
                  refine ob_start (L' := pt b31 (.cells #[Nx (ti.epoch), Nx (ti.next), .slice ps27 (ti.state).length cs29, .slice pr28 (ti.recs).length cr30, Nx (ti.size)] 36) :: M) (by rfl) (up_cons (up_cons rfl hs149) hs148) ?_
                  refine g_val (v := Nx (ti.next)) rfl rfl rfl rfl rfl (e_load1 tf25 (v := Nx (ti.next)) rfl (k_pt 0 (cs := #[Nx (ti.epoch), Nx (ti.next), .slice ps27 (ti.state).length cs29, .slice pr28 (ti.recs).length cr30, Nx (ti.size)]) (vs := [Nx (ti.next)]) rfl rfl)) ?_
                  refine l_nil ?_
                  exact f_owes_d (up_cons (up_cons rfl hs149) hs148) rfl (perm_front 0 rfl)
                · rintro f M ⟨k0, -⟩ ⟨i0, -⟩
                  have hs8 : f 8 = .pointer (some ⟨b7, 0, none⟩) := i0
                  have hs148 : f 148 = .bool true := k0
                  refine ob_start (L' := M) (by rfl) (up_cons (up_cons rfl hs8) hs148) ?_
                  refine g_val (v := .pointer (some ⟨b7, 1, none⟩)) rfl rfl rfl rfl rfl (e_fieldPt (b := b7) (o := 0) rfl tf91) ?_
                  refine l_nil ?_
                  exact f_owes_d (up_cons (up_cons rfl hs8) hs148) rfl (List.Perm.refl _)
                · rintro f M ⟨k0, k1, -⟩ -
                  have hs151 : f 151 = .pointer (some ⟨b7, 1, none⟩) := k0
                  have hs148 : f 148 = .bool true := k1
                  refine ob_start (L' := pt b7 (.cells #[Nx (C4.epoch), Nx (C4.next), .string (C4.state), .slice p5 (C4.recs).length c6] 27) :: M) (by rfl) (up_cons (up_cons rfl hs151) hs148) ?_
                  refine g_val (v := Nx (C4.next)) rfl rfl rfl rfl rfl (e_load1 tf25 (v := Nx (C4.next)) rfl (k_pt 0 (cs := #[Nx (C4.epoch), Nx (C4.next), .string (C4.state), .slice p5 (C4.recs).length c6]) (vs := [Nx (C4.next)]) rfl rfl)) ?_
                  refine l_nil ?_
                  exact f_owes_d (up_cons (up_cons rfl hs151) hs148) rfl (perm_front 0 rfl)
                · rintro f M ⟨k0, -⟩ ⟨i0, -⟩
                  have hs8 : f 8 = .pointer (some ⟨b7, 0, none⟩) := i0
                  have hs148 : f 148 = .bool true := k0
                  refine ob_start (L' := M) (by rfl) (up_cons (up_cons rfl hs8) hs148) ?_
                  refine g_val (v := .pointer (some ⟨b7, 3, none⟩)) rfl rfl rfl rfl rfl (e_fieldPt (b := b7) (o := 0) rfl tf96) ?_
                  refine l_nil ?_
                  exact f_owes_d (up_cons (up_cons rfl hs8) hs148) rfl (List.Perm.refl _)
                · rintro f M ⟨k0, k1, -⟩ -
                  have hs153 : f 153 = .pointer (some ⟨b7, 3, none⟩) := k0
                  have hs148 : f 148 = .bool true := k1
                  refine ob_start (L' := pt b7 (.cells #[Nx (C4.epoch), Nx (C4.next), .string (C4.state), .slice p5 (C4.recs).length c6] 27) :: M) (by rfl) (up_cons (up_cons rfl hs153) hs148) ?_
                  refine g_val (v := .slice p5 (C4.recs).length c6) rfl rfl rfl rfl rfl (e_load1 tf97 (v := .slice p5 (C4.recs).length c6) rfl (k_pt 0 (cs := #[Nx (C4.epoch), Nx (C4.next), .string (C4.state), .slice p5 (C4.recs).length c6]) (vs := [.slice p5 (C4.recs).length c6]) rfl rfl)) ?_
                  refine l_nil ?_
                  exact f_owes_d (up_cons (up_cons rfl hs153) hs148) rfl (perm_front 0 rfl)
                · rintro f M ⟨k0, k1, -⟩ -
                  have hs154 : f 154 = .slice p5 (C4.recs).length c6 := k0
                  have hs148 : f 148 = .bool true := k1
                  refine ob_start (L' := M) (by rfl) (up_cons (up_cons rfl hs154) hs148) ?_
                  refine g_val (v := Nx ((C4.recs).length)) rfl rfl rfl rfl rfl (e_len (a := p5) (n := (C4.recs).length) (c := c6) rfl tf81) ?_
                  refine l_nil ?_
                  exact f_owes_d (up_cons (up_cons rfl hs154) hs148) rfl (List.Perm.refl _)
                · rintro f M ⟨k0, k1, k2, -⟩ -
                  have hs152 : f 152 = Nx (C4.next) := k0
                  have hs155 : f 155 = Nx ((C4.recs).length) := k1
                  have hs148 : f 148 = .bool true := k2
                  refine ob_start (L' := M) (by rfl) (up_cons (up_cons (up_cons rfl hs152) hs155) hs148) ?_
                  refine g_val (v := Ix (((C4.next : Nat) : Int) - (((C4.recs).length : Nat) : Int))) rfl rfl rfl rfl rfl (e_sub (a := ((C4.next : Nat) : Int)) (b := (((C4.recs).length : Nat) : Int)) rfl rfl (i64w (by omega))) ?_
                  refine l_nil ?_
                  exact f_owes_d (up_cons (up_cons (up_cons rfl hs152) hs155) hs148) rfl (List.Perm.refl _)
                · rintro f M ⟨k0, -⟩ ⟨i0, -⟩
                  have hs15 : f 15 = Nx (wz) := i0
                  have hs148 : f 148 = .bool true := k0
                  refine ob_start (L' := M) (by rfl) (up_cons (up_cons rfl hs15) hs148) ?_
                  refine g_val (v := Nx (wz)) rfl rfl rfl rfl rfl (e_move) ?_
                  refine l_nil ?_
                  exact f_owes_d (up_cons (up_cons rfl hs15) hs148) rfl (List.Perm.refl _)
                · rintro f M ⟨k0, k1, k2, -⟩ -
                  have hs156 : f 156 = Ix (((C4.next : Nat) : Int) - (((C4.recs).length : Nat) : Int)) := k0
                  have hs157 : f 157 = Nx (wz) := k1
                  have hs148 : f 148 = .bool true := k2
                  refine ob_start (L' := M) (by rfl) (up_cons (up_cons (up_cons rfl hs156) hs157) hs148) ?_
                  refine g_val (v := Ix ((((C4.next : Nat) : Int) - (((C4.recs).length : Nat) : Int)) + ((wz : Nat) : Int))) rfl rfl rfl rfl rfl (e_add (a := (((C4.next : Nat) : Int) - (((C4.recs).length : Nat) : Int))) (b := ((wz : Nat) : Int)) rfl rfl (i64w (by omega))) ?_
                  refine l_nil ?_
                  exact f_owes_d (up_cons (up_cons (up_cons rfl hs156) hs157) hs148) rfl (List.Perm.refl _)
                · rintro f M ⟨k0, k1, k2, -⟩ -
                  have hs150 : f 150 = Nx (ti.next) := k0
                  have hs158 : f 158 = Ix ((((C4.next : Nat) : Int) - (((C4.recs).length : Nat) : Int)) + ((wz : Nat) : Int)) := k1
                  have hs148 : f 148 = .bool true := k2
                  refine ob_start (L' := M) (by rfl) (up_cons (up_cons (up_cons rfl hs150) hs158) hs148) ?_
                  refine g_val (v := .bool true) rfl rfl rfl rfl rfl ((ev_t (by omega) (e_eql (a := ((ti.next : Nat) : Int)) (b := ((((C4.next : Nat) : Int) - (((C4.recs).length : Nat) : Int)) + ((wz : Nat) : Int))) rfl rfl))) ?_
                  refine l_nil ?_
                  exact f_owes_d (up_cons (up_cons (up_cons rfl hs150) hs158) hs148) rfl (List.Perm.refl _)
                · rintro f M ⟨k0, k1, -⟩ -
                  have hs148 : f 148 = .bool true := k0
                  have hs159 : f 159 = .bool true := k1
                  refine ob_start (L' := M) (by rfl) (up_cons (up_cons rfl hs148) hs159) ?_
                  refine l_val (v := .bool true) rfl rfl rfl (e_pick_t rfl) ?_
                  refine l_nil ?_
                  exact f_owes_d (up_cons (up_cons rfl hs148) hs159) rfl (List.Perm.refl _)
                · rintro f M ⟨k0, -⟩ -
                  have hs160 : f 160 = .bool true := k0
                  refine ob_start (L' := M) (by rfl) (up_cons rfl hs160) ?_
                  refine l_val (v := .bool true) rfl rfl rfl (e_move) ?_
                  refine l_nil ?_
                  exact f_owes_d (up_cons rfl hs160) rfl (List.Perm.refl _)
                · rintro f M ⟨k0, -⟩ -
                  have hs161 : f 161 = .bool true := k0
                  refine ob_start (L' := M) (by rfl) (up_cons rfl hs161) ?_
                  refine g_call rfl rfl rfl rfl rfl (cl_value (fst := []) (cap := []) (vs := []) (all := []) tf111 rfl rfl rfl) ?_
                  intro w hw
                  obtain ⟨β1, sb, kn, hw1, back⟩ := St.frame_all hw
                  refine (awake_ok β1 w hw1).mono ?_
                  rintro e w' ⟨rfl, hw'⟩
                  refine ⟨_, rfl, _, back _ _ hw', ?_⟩
                  clear hw hw1 hw' back kn sb
                  refine l_nil ?_
                  exact f_owes_d (up_cons rfl hs161) rfl (List.Perm.refl _)
                · rintro f M ⟨k0, k1, -⟩ -
                  have hs161 : f 161 = .bool true := k0
                  have hs162 : f 162 = .bool true := k1
                  refine ob_start (L' := M) (by rfl) (up_cons (up_cons rfl hs161) hs162) ?_
                  refine l_val (v := .bool true) rfl rfl rfl (e_pick_t rfl) ?_
                  refine l_nil ?_
                  exact f_owes_d (up_cons (up_cons rfl hs161) hs162) rfl (List.Perm.refl _)
                · rintro f M ⟨k0, -⟩ -
                  have hs163 : f 163 = .bool true := k0
                  refine ob_start (L' := M) (by rfl) (up_cons rfl hs163) ?_
                  refine l_val (v := .bool true) rfl rfl rfl (e_assign) ?_
                  refine l_nil ?_
                  exact f_owes_d (up_cons rfl hs163) rfl (List.Perm.refl _)
                rintro fa42 ⟨-, -, -, -, -, -, -, -, -, -, -, -, -, -, -, -, -, -, -, -, -, -, -, -, -, -, -, -, -, -, -, -, -, -, -, -, -, -, -, -, -, -, -, -, -, -, -, -, -, k49, -⟩ -
                refine f_re (L' := [pt b31 (.cells #[Nx (ti.epoch), Nx (ti.next), .slice ps27 (ti.state).length cs29, .slice pr28 (ti.recs).length cr30, Nx (ti.size)] 36), row (.slice ps27 (ti.state).length cs29) 5 1 ((ti.state).length) (BX ti.state), recsR 30 pr28 cr30 ti.recs, pt S1 (.cells #[.slice pH8 (K2.head).length cH11, .slice pA9 (K2.a).length cA12, .slice pB10 ((K2.b.set (at_ % ((K2.b).length)) (c22 ^^^ (max by_ (1 : UInt8))))).length cB13, Ix (K2.power)] 32), row (.slice pH8 (K2.head).length cH11) 5 1 ((K2.head).length) (BX K2.head), row (.slice pA9 (K2.a).length cA12) 5 1 ((K2.a).length) (BX K2.a), row (.slice pB10 ((K2.b.set (at_ % ((K2.b).length)) (c22 ^^^ (max by_ (1 : UInt8))))).length cB13) 5 1 (((K2.b.set (at_ % ((K2.b).length)) (c22 ^^^ (max by_ (1 : UInt8))))).length) (BX (K2.b.set (at_ % ((K2.b).length)) (c22 ^^^ (max by_ (1 : UInt8))))), pt b7 (.cells #[Nx (C4.epoch), Nx (C4.next), .string (C4.state), .slice p5 (C4.recs).length c6] 27), row (.slice p5 (C4.recs).length c6) 9 1 ((C4.recs).length) (C4.recs.map (fun s : ByteArray => Value.string s)), row (.slice (sla (fa42 141)) (ti.recs.map str).length (slc (fa42 141))) 9 1 ((ti.recs.map str).length) ((ti.recs.map str).map (fun s : ByteArray => Value.string s))]) (by rfl) ?_
                refine f_rebase (d := 6) (v := .bool true) k49 ?_
                refine f_then ?_
                refine c_ret ?_
                refine ret1 Try.results3 (v := .bool true) rfl ?_
                intro w hw
                exact ⟨rfl, st_mask [false, false, false, false, false, false, false, false, false, false] rfl hw⟩
            ·
              refine l_skip rfl rfl rfl rfl rfl rfl ?_
              refine l_skip rfl rfl rfl rfl rfl rfl ?_
              refine l_skip rfl rfl rfl rfl rfl rfl ?_
              refine l_skip rfl rfl rfl rfl rfl rfl ?_
              refine l_skip rfl rfl rfl rfl rfl rfl ?_
              refine l_skip rfl rfl rfl rfl rfl rfl ?_
              refine l_skip rfl rfl rfl rfl rfl rfl ?_
              refine l_skip rfl rfl rfl rfl rfl rfl ?_
              refine l_skip rfl rfl rfl rfl rfl rfl ?_
              refine l_skip rfl rfl rfl rfl rfl rfl ?_
              refine l_skip rfl rfl rfl rfl rfl rfl ?_
              refine l_val (v := .bool false) rfl rfl rfl (e_pick_f rfl) ?_
              refine l_nil ?_
              refine f_then ?_
              refine c_no rfl ?_
              refine c_exit ?_
              refine f_then_exit ?_
              refine f_then_exit ?_
              refine f_exit ?_
              refine f_then ?_
              refine c_seq ?_
              exfalso
              have h1 := sizes_take_mono (l := I3.recs) (show tw + 1 ≤ wz by omega)
              rw [sizes_take_succ ht1] at h1
              omega
        ·
          have hbs : baseOf I3 = 0 := if_pos (by omega)
          refine c_skip ?_
          refine f_then ?_
          refine c_seq ?_
          refine c_rowcap 8 rfl (fun hcl hcm => ?_)
          refine c_region ?_
          refine l_val (v := .int .i64 (0)) rfl rfl rfl (e_assign) ?_
          refine l_nil ?_
          refine f_then ?_
          refine c_seq ?_
          refine c_block ?_
          refine c_loop (fun (wz : Nat) (f : Fm) (L : List Res) => (f 8 = .pointer (some ⟨b7, 0, none⟩) ∧ f 11 = Nx (at_ % ((K2.b).length)) ∧ f 12 = .pointer (some ⟨b31, 0, none⟩) ∧ f 13 = .int .i64 (0) ∧ f 14 = Nx (0 + sizes (I3.recs.take wz)) ∧ f 15 = Nx (wz)) ∧ L = [pt b31 (.cells #[Nx (ti.epoch), Nx (ti.next), .slice ps27 (ti.state).length cs29, .slice pr28 (ti.recs).length cr30, Nx (ti.size)] 36), row (.slice ps27 (ti.state).length cs29) 5 1 ((ti.state).length) (BX ti.state), recsR 30 pr28 cr30 ti.recs, pt S1 (.cells #[.slice pH8 (K2.head).length cH11, .slice pA9 (K2.a).length cA12, .slice pB10 ((K2.b.set (at_ % ((K2.b).length)) (c22 ^^^ (max by_ (1 : UInt8))))).length cB13, Ix (K2.power)] 32), row (.slice pH8 (K2.head).length cH11) 5 1 ((K2.head).length) (BX K2.head), row (.slice pA9 (K2.a).length cA12) 5 1 ((K2.a).length) (BX K2.a), row (.slice pB10 ((K2.b.set (at_ % ((K2.b).length)) (c22 ^^^ (max by_ (1 : UInt8))))).length cB13) 5 1 (((K2.b.set (at_ % ((K2.b).length)) (c22 ^^^ (max by_ (1 : UInt8))))).length) (BX (K2.b.set (at_ % ((K2.b).length)) (c22 ^^^ (max by_ (1 : UInt8))))), pt b7 (.cells #[Nx (C4.epoch), Nx (C4.next), .string (C4.state), .slice p5 (C4.recs).length c6] 27), row (.slice p5 (C4.recs).length c6) 9 1 ((C4.recs).length) (C4.recs.map (fun s : ByteArray => Value.string s))] ∧ (wz ≤ I3.recs.length ∧ 0 + sizes (I3.recs.take wz) ≤ (at_ % ((K2.b).length)))) (fun (wz : Nat) => I3.recs.length - wz) 0 ?_ ?_
          · exact ⟨⟨rfl, rfl, rfl, rfl, rfl, rfl⟩, rfl, ⟨by omega, by simp [sizes]; try omega⟩⟩
          rintro wz f0 L0 ⟨⟨hs8, hs11, hs12, hs13, hs14, hs15⟩, hL, ⟨hw1_, hw2_⟩⟩
          subst L0
          refine rebase (d := 8) hs8 ?_
          refine rebase (d := 11) hs11 ?_
          refine rebase (d := 12) hs12 ?_
          refine rebase (d := 13) hs13 ?_
          refine rebase (d := 14) hs14 ?_
          refine rebase (d := 15) hs15 ?_
          clear hs8 hs11 hs12 hs13 hs14 hs15
          have hsb := sizes_take_le (l := I3.recs) (w := wz)
          have hszr : baseOf I3 + sizes I3.recs ≤ 324 * 9 := by have := encI_len I3; have := hI.wf.size; have := hI.sz; omega
          refine c_seq ?_
          refine c_seq ?_
          refine c_region ?_
          refine l_val (v := Nx (wz)) rfl rfl rfl (e_move) ?_
          refine l_val (v := .pointer (some ⟨b7, 3, none⟩)) rfl rfl rfl (e_fieldPt (b := b7) (o := 0) rfl tf96) ?_
          refine l_val (v := .slice p5 (C4.recs).length c6) rfl rfl rfl (e_load1 tf97 (v := .slice p5 (C4.recs).length c6) rfl (k_pt 7 (cs := #[Nx (C4.epoch), Nx (C4.next), .string (C4.state), .slice p5 (C4.recs).length c6]) (vs := [.slice p5 (C4.recs).length c6]) rfl rfl)) ?_
          refine l_val (v := Nx ((C4.recs).length)) rfl rfl rfl (e_len (a := p5) (n := (C4.recs).length) (c := c6) rfl tf81) ?_
          refine l_val (v := .bool (decide (((wz : Nat) : Int) < (((C4.recs).length : Nat) : Int)))) rfl rfl rfl (e_lss (a := ((wz : Nat) : Int)) (b := (((C4.recs).length : Nat) : Int)) rfl rfl) ?_
          refine l_val (v := .bool (decide (((wz : Nat) : Int) < (((C4.recs).length : Nat) : Int)))) rfl rfl rfl (e_move) ?_
          refine l_split (s := 91) (p := ((wz : Nat) : Int) < (((C4.recs).length : Nat) : Int)) rfl (fun hg43 => ?_) (fun hg43 => ?_)
          ·
            refine g_val (v := Nx (at_ % ((K2.b).length))) rfl rfl rfl rfl rfl (e_move) ?_
            refine g_val (v := Nx (0 + sizes (I3.recs.take wz))) rfl rfl rfl rfl rfl (e_move) ?_
            refine g_val (v := Nx ((0 + sizes (I3.recs.take wz)) + 24)) rfl rfl rfl rfl rfl (e_add (a := ((0 + sizes (I3.recs.take wz) : Nat) : Int)) (b := (24 : Int)) rfl rfl (i64n (by omega) (by omega))) ?_
            refine g_val (v := .pointer (some ⟨b7, 3, none⟩)) rfl rfl rfl rfl rfl (e_fieldPt (b := b7) (o := 0) rfl tf96) ?_
            refine g_val (v := .slice p5 (C4.recs).length c6) rfl rfl rfl rfl rfl (e_load1 tf97 (v := .slice p5 (C4.recs).length c6) rfl (k_pt 7 (cs := #[Nx (C4.epoch), Nx (C4.next), .string (C4.state), .slice p5 (C4.recs).length c6]) (vs := [.slice p5 (C4.recs).length c6]) rfl rfl)) ?_
            refine g_val (v := Nx (wz)) rfl rfl rfl rfl rfl (e_move) ?_
            refine g_val (v := .pointer (some ((ba p5).add (wz * 1)))) rfl rfl rfl rfl rfl (e_indexRow 8 (j := wz) (len := (C4.recs).length) (cap := c6) (p := p5) rfl rfl tf78 (by omega) (by omega) rfl) ?_
            obtain ⟨c44, hc45⟩ : ∃ c, C4.recs[wz]? = some c := ⟨_, List.getElem?_eq_getElem (by omega)⟩
            obtain ⟨rw, hrw1, hrw2⟩ := recs_at hC hc45
            have hss := sizes_take_succ hrw1
            have hrw3 := (List.getElem?_eq_some_iff.1 hrw1).1
            have hsb2 := sizes_take_le (l := I3.recs) (w := wz + 1)
            refine g_val (v := .string (c44)) rfl rfl rfl rfl rfl (e_load1 tf6 (v := .string (c44)) rfl (k_row 8 (o := wz * 1) (us := [.string (c44)]) rfl (map_at (enc := fun s : ByteArray => Value.string s) hc45) (Nat.succ_pos _))) ?_
            refine g_val (v := Nx ((c44).size)) rfl rfl rfl rfl rfl (e_len_s (s := c44) rfl tf7) ?_
            refine g_val (v := Nx (((0 + sizes (I3.recs.take wz)) + 24) + ((c44).size))) rfl rfl rfl rfl rfl (e_add (a := (((0 + sizes (I3.recs.take wz)) + 24 : Nat) : Int)) (b := (((c44).size : Nat) : Int)) rfl rfl (i64n (by omega) (by omega))) ?_
            refine g_val (v := .bool (decide (((((0 + sizes (I3.recs.take wz)) + 24) + ((c44).size) : Nat) : Int) ≤ ((at_ % ((K2.b).length) : Nat) : Int)))) rfl rfl rfl rfl rfl (e_geq (a := ((at_ % ((K2.b).length) : Nat) : Int)) (b := ((((0 + sizes (I3.recs.take wz)) + 24) + ((c44).size) : Nat) : Int)) rfl rfl) ?_
            refine l_val (v := .bool (decide (((((0 + sizes (I3.recs.take wz)) + 24) + ((c44).size) : Nat) : Int) ≤ ((at_ % ((K2.b).length) : Nat) : Int)))) rfl rfl rfl (e_pick_t rfl) ?_
            refine l_nil ?_
            refine f_then ?_
            refine c_if (((((0 + sizes (I3.recs.take wz)) + 24) + ((c44).size) : Nat) : Int) ≤ ((at_ % ((K2.b).length) : Nat) : Int)) rfl (fun hc46 => ?_) (fun hc46 => ?_)
            ·
              refine c_skip ?_
              refine f_then ?_
              refine c_block ?_
              refine c_seq ?_
              refine c_region ?_
              refine l_val (v := Nx (0 + sizes (I3.recs.take wz))) rfl rfl rfl (e_move) ?_
              refine l_val (v := .pointer (some ⟨b7, 3, none⟩)) rfl rfl rfl (e_fieldPt (b := b7) (o := 0) rfl tf96) ?_
              refine l_val (v := .slice p5 (C4.recs).length c6) rfl rfl rfl (e_load1 tf97 (v := .slice p5 (C4.recs).length c6) rfl (k_pt 7 (cs := #[Nx (C4.epoch), Nx (C4.next), .string (C4.state), .slice p5 (C4.recs).length c6]) (vs := [.slice p5 (C4.recs).length c6]) rfl rfl)) ?_
              refine l_val (v := Nx (wz)) rfl rfl rfl (e_move) ?_
              refine l_val (v := .pointer (some ((ba p5).add (wz * 1)))) rfl rfl rfl (e_indexRow 8 (j := wz) (len := (C4.recs).length) (cap := c6) (p := p5) rfl rfl tf78 (by omega) (by omega) rfl) ?_
              refine l_val (v := .string (c44)) rfl rfl rfl (e_load1 tf6 (v := .string (c44)) rfl (k_row 8 (o := wz * 1) (us := [.string (c44)]) rfl (map_at (enc := fun s : ByteArray => Value.string s) hc45) (Nat.succ_pos _))) ?_
              refine l_val (v := Nx ((c44).size)) rfl rfl rfl (e_len_s (s := c44) rfl tf7) ?_
              refine l_val (v := Nx (24 + ((c44).size))) rfl rfl rfl (e_add (a := (24 : Int)) (b := (((c44).size : Nat) : Int)) rfl rfl (i64n (by omega) (by omega))) ?_
              refine l_val (v := Nx ((0 + sizes (I3.recs.take wz)) + (24 + ((c44).size)))) rfl rfl rfl (e_add (a := ((0 + sizes (I3.recs.take wz) : Nat) : Int)) (b := ((24 + ((c44).size) : Nat) : Int)) rfl rfl (i64n (by omega) (by omega))) ?_
              refine l_val (v := Nx ((0 + sizes (I3.recs.take wz)) + (24 + ((c44).size)))) rfl rfl rfl (e_assign) ?_
              refine l_nil ?_
              refine f_then ?_
              refine c_region ?_
              refine l_val (v := Nx (wz)) rfl rfl rfl (e_move) ?_
              refine l_val (v := Nx (wz + 1)) rfl rfl rfl (e_add (a := ((wz : Nat) : Int)) (b := (1 : Int)) rfl rfl (i64n (by omega) (by omega))) ?_
              refine l_val (v := Nx (wz + 1)) rfl rfl rfl (e_assign) ?_
              refine l_nil ?_
              refine f_block ?_
              exact f_cut ⟨wz + 1, ⟨⟨rfl, rfl, rfl, rfl, (congrArg (fun z : Nat => Nx z) (by omega)), rfl⟩, rfl, ⟨by omega, by omega⟩⟩, (show I3.recs.length - (wz + 1) < I3.recs.length - wz from by omega)⟩
            ·
              refine c_exit ?_
              refine f_then_exit ?_
              refine f_then_exit ?_
              refine f_exit ?_
              refine f_then ?_
              refine c_seq ?_
              have hwt : wz = tw := find_uniq (k := (at_ % ((K2.b).length)) - baseOf I3) hrw1 ht1 (by omega) (by omega) (by omega) (by omega)
              subst hwt
              refine c_any [⟨[], [], [0], [115], fun f => f 115 = .int .i64 (0)⟩, ⟨[0], [0], [], [116], fun f => f 116 = .bool true⟩, ⟨[0, 1], [1], [], [117], fun f => f 117 = .bool true⟩, ⟨[0, 1, 2], [2], [1], [118], fun f => f 118 = .pointer (some ⟨b31, 0, none⟩)⟩, ⟨[0, 1, 2, 3], [3, 2], [], [119], fun f => f 119 = Nx (ti.epoch)⟩, ⟨[0, 1, 2], [2], [2], [120], fun f => f 120 = .pointer (some ⟨b7, 0, none⟩)⟩, ⟨[0, 1, 2, 5], [5, 2], [], [121], fun f => f 121 = Nx (C4.epoch)⟩, ⟨[0, 1, 2, 3, 4, 5, 6], [4, 6, 2], [], [122], fun f => f 122 = .bool true⟩, ⟨[0, 1, 2, 3, 4, 5, 6, 7], [2, 7], [], [123], fun f => f 123 = .bool true⟩, ⟨[0, 1, 2, 3, 4, 5, 6, 7, 8], [8], [], [124], fun f => f 124 = .bool true⟩, ⟨[0, 1, 2, 3, 4, 5, 6, 7, 8, 9], [9], [1], [125], fun f => f 125 = .pointer (some ⟨b31, 4, none⟩)⟩, ⟨[0, 1, 2, 3, 4, 5, 6, 7, 8, 9, 10], [10, 9], [], [126], fun f => f 126 = Nx (ti.size)⟩, ⟨[0, 1, 2, 3, 4, 5, 6, 7, 8, 9], [9], [3], [127], fun f => f 127 = Nx (0 + sizes (I3.recs.take wz))⟩, ⟨[0, 1, 2, 3, 4, 5, 6, 7, 8, 9, 10, 11, 12], [11, 12, 9], [], [128], fun f => f 128 = .bool true⟩, ⟨[0, 1, 2, 3, 4, 5, 6, 7, 8, 9, 10, 11, 12, 13], [9, 13], [], [129], fun f => f 129 = .bool true⟩, ⟨[0, 1, 2, 3, 4, 5, 6, 7, 8, 9, 10, 11, 12, 13, 14], [14], [], [130], fun f => f 130 = .bool true⟩, ⟨[0, 1, 2, 3, 4, 5, 6, 7, 8, 9, 10, 11, 12, 13, 14, 15], [15], [1], [131], fun f => f 131 = .pointer (some ⟨b31, 2, none⟩)⟩, ⟨[0, 1, 2, 3, 4, 5, 6, 7, 8, 9, 10, 11, 12, 13, 14, 15, 16], [16, 15], [], [132], fun f => f 132 = .slice ps27 (ti.state).length cs29⟩, ⟨[0, 1, 2, 3, 4, 5, 6, 7, 8, 9, 10, 11, 12, 13, 14, 15, 16, 17], [17, 15], [], [133], fun f => f 133 = .string (str ti.state)⟩, ⟨[0, 1, 2, 3, 4, 5, 6, 7, 8, 9, 10, 11, 12, 13, 14, 15], [15], [2], [134], fun f => f 134 = .pointer (some ⟨b7, 2, none⟩)⟩, ⟨[0, 1, 2, 3, 4, 5, 6, 7, 8, 9, 10, 11, 12, 13, 14, 15, 19], [19, 15], [], [135], fun f => f 135 = .string (C4.state)⟩, ⟨[0, 1, 2, 3, 4, 5, 6, 7, 8, 9, 10, 11, 12, 13, 14, 15, 16, 17, 18, 19, 20], [18, 20, 15], [], [136], fun f => f 136 = .bool true⟩, ⟨[0, 1, 2, 3, 4, 5, 6, 7, 8, 9, 10, 11, 12, 13, 14, 15, 16, 17, 18, 19, 20, 21], [15, 21], [], [137], fun f => f 137 = .bool true⟩, ⟨[0, 1, 2, 3, 4, 5, 6, 7, 8, 9, 10, 11, 12, 13, 14, 15, 16, 17, 18, 19, 20, 21, 22], [22], [], [138], fun f => f 138 = .bool true⟩, ⟨[0, 1, 2, 3, 4, 5, 6, 7, 8, 9, 10, 11, 12, 13, 14, 15, 16, 17, 18, 19, 20, 21, 22, 23], [23], [1], [139], fun f => f 139 = .pointer (some ⟨b31, 3, none⟩)⟩, ⟨[0, 1, 2, 3, 4, 5, 6, 7, 8, 9, 10, 11, 12, 13, 14, 15, 16, 17, 18, 19, 20, 21, 22, 23, 24], [24, 23], [], [140], fun f => f 140 = .slice pr28 (ti.recs).length cr30⟩, ⟨[0, 1, 2, 3, 4, 5, 6, 7, 8, 9, 10, 11, 12, 13, 14, 15, 16, 17, 18, 19, 20, 21, 22, 23, 24, 25], [25, 23], [], [141], fun f => f 141 = .slice (sla (f 141)) (ti.recs.map str).length (slc (f 141))⟩, ⟨[0, 1, 2, 3, 4, 5, 6, 7, 8, 9, 10, 11, 12, 13, 14, 15, 16, 17, 18, 19, 20, 21, 22, 23], [23], [2], [142], fun f => f 142 = .pointer (some ⟨b7, 3, none⟩)⟩, ⟨[0, 1, 2, 3, 4, 5, 6, 7, 8, 9, 10, 11, 12, 13, 14, 15, 16, 17, 18, 19, 20, 21, 22, 23, 27], [27, 23], [], [143], fun f => f 143 = .slice p5 (C4.recs).length c6⟩, ⟨[0, 1, 2, 3, 4, 5, 6, 7, 8, 9, 10, 11, 12, 13, 14, 15, 16, 17, 18, 19, 20, 21, 22, 23], [23], [4], [144], fun f => f 144 = Nx (wz)⟩, ⟨[0, 1, 2, 3, 4, 5, 6, 7, 8, 9, 10, 11, 12, 13, 14, 15, 16, 17, 18, 19, 20, 21, 22, 23, 27, 28, 29], [28, 29, 23], [], [145], fun f => f 145 = .slice p5 (wz) c6⟩, ⟨[0, 1, 2, 3, 4, 5, 6, 7, 8, 9, 10, 11, 12, 13, 14, 15, 16, 17, 18, 19, 20, 21, 22, 23, 24, 25, 26, 27, 28, 29, 30], [26, 30, 23], [], [146], fun f => f 146 = .bool true⟩, ⟨[0, 1, 2, 3, 4, 5, 6, 7, 8, 9, 10, 11, 12, 13, 14, 15, 16, 17, 18, 19, 20, 21, 22, 23, 24, 25, 26, 27, 28, 29, 30, 31], [23, 31], [], [147], fun f => f 147 = .bool true⟩, ⟨[0, 1, 2, 3, 4, 5, 6, 7, 8, 9, 10, 11, 12, 13, 14, 15, 16, 17, 18, 19, 20, 21, 22, 23, 24, 25, 26, 27, 28, 29, 30, 31, 32], [32], [], [148], fun f => f 148 = .bool true⟩, ⟨[0, 1, 2, 3, 4, 5, 6, 7, 8, 9, 10, 11, 12, 13, 14, 15, 16, 17, 18, 19, 20, 21, 22, 23, 24, 25, 26, 27, 28, 29, 30, 31, 32, 33], [33], [1], [149], fun f => f 149 = .pointer (some ⟨b31, 1, none⟩)⟩, ⟨[0, 1, 2, 3, 4, 5, 6, 7, 8, 9, 10, 11, 12, 13, 14, 15, 16, 17, 18, 19, 20, 21, 22, 23, 24, 25, 26, 27, 28, 29, 30, 31, 32, 33, 34], [34, 33], [], [150], fun f => f 150 = Nx (ti.next)⟩, ⟨[0, 1, 2, 3, 4, 5, 6, 7, 8, 9, 10, 11, 12, 13, 14, 15, 16, 17, 18, 19, 20, 21, 22, 23, 24, 25, 26, 27, 28, 29, 30, 31, 32, 33], [33], [2], [151], fun f => f 151 = .pointer (some ⟨b7, 1, none⟩)⟩, ⟨[0, 1, 2, 3, 4, 5, 6, 7, 8, 9, 10, 11, 12, 13, 14, 15, 16, 17, 18, 19, 20, 21, 22, 23, 24, 25, 26, 27, 28, 29, 30, 31, 32, 33, 36], [36, 33], [], [152], fun f => f 152 = Nx (C4.next)⟩, ⟨[0, 1, 2, 3, 4, 5, 6, 7, 8, 9, 10, 11, 12, 13, 14, 15, 16, 17, 18, 19, 20, 21, 22, 23, 24, 25, 26, 27, 28, 29, 30, 31, 32, 33], [33], [2], [153], fun f => f 153 = .pointer (some ⟨b7, 3, none⟩)⟩, ⟨[0, 1, 2, 3, 4, 5, 6, 7, 8, 9, 10, 11, 12, 13, 14, 15, 16, 17, 18, 19, 20, 21, 22, 23, 24, 25, 26, 27, 28, 29, 30, 31, 32, 33, 38], [38, 33], [], [154], fun f => f 154 = .slice p5 (C4.recs).length c6⟩, ⟨[0, 1, 2, 3, 4, 5, 6, 7, 8, 9, 10, 11, 12, 13, 14, 15, 16, 17, 18, 19, 20, 21, 22, 23, 24, 25, 26, 27, 28, 29, 30, 31, 32, 33, 38, 39], [39, 33], [], [155], fun f => f 155 = Nx ((C4.recs).length)⟩, ⟨[0, 1, 2, 3, 4, 5, 6, 7, 8, 9, 10, 11, 12, 13, 14, 15, 16, 17, 18, 19, 20, 21, 22, 23, 24, 25, 26, 27, 28, 29, 30, 31, 32, 33, 36, 37, 38, 39, 40], [37, 40, 33], [], [156], fun f => f 156 = Ix (((C4.next : Nat) : Int) - (((C4.recs).length : Nat) : Int))⟩, ⟨[0, 1, 2, 3, 4, 5, 6, 7, 8, 9, 10, 11, 12, 13, 14, 15, 16, 17, 18, 19, 20, 21, 22, 23, 24, 25, 26, 27, 28, 29, 30, 31, 32, 33], [33], [4], [157], fun f => f 157 = Nx (wz)⟩, ⟨[0, 1, 2, 3, 4, 5, 6, 7, 8, 9, 10, 11, 12, 13, 14, 15, 16, 17, 18, 19, 20, 21, 22, 23, 24, 25, 26, 27, 28, 29, 30, 31, 32, 33, 36, 37, 38, 39, 40, 41, 42], [41, 42, 33], [], [158], fun f => f 158 = Ix ((((C4.next : Nat) : Int) - (((C4.recs).length : Nat) : Int)) + ((wz : Nat) : Int))⟩, ⟨[0, 1, 2, 3, 4, 5, 6, 7, 8, 9, 10, 11, 12, 13, 14, 15, 16, 17, 18, 19, 20, 21, 22, 23, 24, 25, 26, 27, 28, 29, 30, 31, 32, 33, 34, 35, 36, 37, 38, 39, 40, 41, 42, 43], [35, 43, 33], [], [159], fun f => f 159 = .bool true⟩, ⟨[0, 1, 2, 3, 4, 5, 6, 7, 8, 9, 10, 11, 12, 13, 14, 15, 16, 17, 18, 19, 20, 21, 22, 23, 24, 25, 26, 27, 28, 29, 30, 31, 32, 33, 34, 35, 36, 37, 38, 39, 40, 41, 42, 43, 44], [33, 44], [], [160], fun f => f 160 = .bool true⟩, ⟨[0, 1, 2, 3, 4, 5, 6, 7, 8, 9, 10, 11, 12, 13, 14, 15, 16, 17, 18, 19, 20, 21, 22, 23, 24, 25, 26, 27, 28, 29, 30, 31, 32, 33, 34, 35, 36, 37, 38, 39, 40, 41, 42, 43, 44, 45], [45], [], [161], fun f => f 161 = .bool true⟩, ⟨[0, 1, 2, 3, 4, 5, 6, 7, 8, 9, 10, 11, 12, 13, 14, 15, 16, 17, 18, 19, 20, 21, 22, 23, 24, 25, 26, 27, 28, 29, 30, 31, 32, 33, 34, 35, 36, 37, 38, 39, 40, 41, 42, 43, 44, 45, 46], [46], [], [162], fun f => f 162 = .bool true⟩, ⟨[0, 1, 2, 3, 4, 5, 6, 7, 8, 9, 10, 11, 12, 13, 14, 15, 16, 17, 18, 19, 20, 21, 22, 23, 24, 25, 26, 27, 28, 29, 30, 31, 32, 33, 34, 35, 36, 37, 38, 39, 40, 41, 42, 43, 44, 45, 46, 47], [46, 47], [], [163], fun f => f 163 = .bool true⟩, ⟨[0, 1, 2, 3, 4, 5, 6, 7, 8, 9, 10, 11, 12, 13, 14, 15, 16, 17, 18, 19, 20, 21, 22, 23, 24, 25, 26, 27, 28, 29, 30, 31, 32, 33, 34, 35, 36, 37, 38, 39, 40, 41, 42, 43, 44, 45, 46, 47, 48], [48], [], [6], fun f => f 6 = .bool true⟩] [⟨none, none, [4, 11, 17, 25, 35], [], fun _ => pt b31 (.cells #[Nx (ti.epoch), Nx (ti.next), .slice ps27 (ti.state).length cs29, .slice pr28 (ti.recs).length cr30, Nx (ti.size)] 36)⟩, ⟨none, none, [18], [], fun _ => row (.slice ps27 (ti.state).length cs29) 5 1 ((ti.state).length) (BX ti.state)⟩, ⟨none, none, [26], [], fun _ => recsR 30 pr28 cr30 ti.recs⟩, ⟨none, none, [], [], fun _ => pt S1 (.cells #[.slice pH8 (K2.head).length cH11, .slice pA9 (K2.a).length cA12, .slice pB10 ((K2.b.set (at_ % ((K2.b).length)) (c22 ^^^ (max by_ (1 : UInt8))))).length cB13, Ix (K2.power)] 32)⟩, ⟨none, none, [], [], fun _ => row (.slice pH8 (K2.head).length cH11) 5 1 ((K2.head).length) (BX K2.head)⟩, ⟨none, none, [], [], fun _ => row (.slice pA9 (K2.a).length cA12) 5 1 ((K2.a).length) (BX K2.a)⟩, ⟨none, none, [], [], fun _ => row (.slice pB10 ((K2.b.set (at_ % ((K2.b).length)) (c22 ^^^ (max by_ (1 : UInt8))))).length cB13) 5 1 (((K2.b.set (at_ % ((K2.b).length)) (c22 ^^^ (max by_ (1 : UInt8))))).length) (BX (K2.b.set (at_ % ((K2.b).length)) (c22 ^^^ (max by_ (1 : UInt8)))))⟩, ⟨none, none, [6, 20, 28, 37, 39], [], fun _ => pt b7 (.cells #[Nx (C4.epoch), Nx (C4.next), .string (C4.state), .slice p5 (C4.recs).length c6] 27)⟩, ⟨none, none, [31], [], fun _ => row (.slice p5 (C4.recs).length c6) 9 1 ((C4.recs).length) (C4.recs.map (fun s : ByteArray => Value.string s))⟩, ⟨(some 26), none, [31], [141], fun f => row (.slice (sla (f 141)) (ti.recs.map str).length (slc (f 141))) 9 1 ((ti.recs.map str).length) ((ti.recs.map str).map (fun s : ByteArray => Value.string s))⟩] [(13, .int .i64 (0)), (12, .pointer (some ⟨b31, 0, none⟩)), (8, .pointer (some ⟨b7, 0, none⟩)), (14, Nx (0 + sizes (I3.recs.take wz))), (15, Nx (wz))] [] [] (by kernel_rfl) (by kernel_rfl) (by kernel_rfl) (by kernel_rfl) rfl ⟨rfl, rfl, rfl, rfl, rfl, trivial⟩ ⟨?_, ?_, ?_, ?_, ?_, ?_, ?_, ?_, ?_, ?_, ?_, ?_, ?_, ?_, ?_, ?_, ?_, ?_, ?_, ?_, ?_, ?_, ?_, ?_, ?_, ?_, ?_, ?_, ?_, ?_, ?_, ?_, ?_, ?_, ?_, ?_, ?_, ?_, ?_, ?_, ?_, ?_, ?_, ?_, ?_, ?_, ?_, ?_, ?_, ?_, trivial⟩ ?_
              · rintro f M - ⟨i0, -⟩
                have hs13 : f 13 = .int .i64 (0) := i0
                refine ob_start (L' := M) (by rfl) (up_cons rfl hs13) ?_
                refine l_val (v := .int .i64 (0)) rfl rfl rfl (e_move) ?_
                refine l_nil ?_
                exact f_owes_d (up_cons rfl hs13) rfl (List.Perm.refl _)
              · rintro f M ⟨k0, -⟩ -
                have hs115 : f 115 = .int .i64 (0) := k0
                refine ob_start (L' := M) (by rfl) (up_cons rfl hs115) ?_
                refine l_val (v := .bool true) rfl rfl rfl (e_eql (a := (0 : Int)) (b := (0 : Int)) rfl rfl) ?_
                refine l_nil ?_
                exact f_owes_d (up_cons rfl hs115) rfl (List.Perm.refl _)
              · rintro f M ⟨k0, -⟩ -
                have hs116 : f 116 = .bool true := k0
                refine ob_start (L' := M) (by rfl) (up_cons rfl hs116) ?_
                refine l_val (v := .bool true) rfl rfl rfl (e_move) ?_
                refine l_nil ?_
                exact f_owes_d (up_cons rfl hs116) rfl (List.Perm.refl _)
              · rintro f M ⟨k0, -⟩ ⟨i0, -⟩
                have hs12 : f 12 = .pointer (some ⟨b31, 0, none⟩) := i0
                have hs117 : f 117 = .bool true := k0
                refine ob_start (L' := M) (by rfl) (up_cons (up_cons rfl hs12) hs117) ?_
                refine g_val (v := .pointer (some ⟨b31, 0, none⟩)) rfl rfl rfl rfl rfl (e_fieldPt (b := b31) (o := 0) rfl tf48) ?_
                refine l_nil ?_
                exact f_owes_d (up_cons (up_cons rfl hs12) hs117) rfl (List.Perm.refl _)
              · rintro f M ⟨k0, k1, -⟩ -
                have hs118 : f 118 = .pointer (some ⟨b31, 0, none⟩) := k0
                have hs117 : f 117 = .bool true := k1
                refine ob_start (L' := pt b31 (.cells #[Nx (ti.epoch), Nx (ti.next), .slice ps27 (ti.state).length cs29, .slice pr28 (ti.recs).length cr30, Nx (ti.size)] 36) :: M) (by rfl) (up_cons (up_cons rfl hs118) hs117) ?_
                refine g_val (v := Nx (ti.epoch)) rfl rfl rfl rfl rfl (e_load1 tf25 (v := Nx (ti.epoch)) rfl (k_pt 0 (cs := #[Nx (ti.epoch), Nx (ti.next), .slice ps27 (ti.state).length cs29, .slice pr28 (ti.recs).length cr30, Nx (ti.size)]) (vs := [Nx (ti.epoch)]) rfl rfl)) ?_
                refine l_nil ?_
                exact f_owes_d (up_cons (up_cons rfl hs118) hs117) rfl (perm_front 0 rfl)
              · rintro f M ⟨k0, -⟩ ⟨i0, -⟩
                have hs8 : f 8 = .pointer (some ⟨b7, 0, none⟩) := i0
                have hs117 : f 117 = .bool true := k0
                refine ob_start (L' := M) (by rfl) (up_cons (up_cons rfl hs8) hs117) ?_
                refine g_val (v := .pointer (some ⟨b7, 0, none⟩)) rfl rfl rfl rfl rfl (e_fieldPt (b := b7) (o := 0) rfl tf89) ?_
                refine l_nil ?_
                exact f_owes_d (up_cons (up_cons rfl hs8) hs117) rfl (List.Perm.refl _)
              · rintro f M ⟨k0, k1, -⟩ -
                have hs120 : f 120 = .pointer (some ⟨b7, 0, none⟩) := k0
                have hs117 : f 117 = .bool true := k1
                refine ob_start (L' := pt b7 (.cells #[Nx (C4.epoch), Nx (C4.next), .string (C4.state), .slice p5 (C4.recs).length c6] 27) :: M) (by rfl) (up_cons (up_cons rfl hs120) hs117) ?_
                refine g_val (v := Nx (C4.epoch)) rfl rfl rfl rfl rfl (e_load1 tf25 (v := Nx (C4.epoch)) rfl (k_pt 0 (cs := #[Nx (C4.epoch), Nx (C4.next), .string (C4.state), .slice p5 (C4.recs).length c6]) (vs := [Nx (C4.epoch)]) rfl rfl)) ?_
                refine l_nil ?_
                exact f_owes_d (up_cons (up_cons rfl hs120) hs117) rfl (perm_front 0 rfl)
              · rintro f M ⟨k0, k1, k2, -⟩ -
                have hs119 : f 119 = Nx (ti.epoch) := k0
                have hs121 : f 121 = Nx (C4.epoch) := k1
                have hs117 : f 117 = .bool true := k2
                refine ob_start (L' := M) (by rfl) (up_cons (up_cons (up_cons rfl hs119) hs121) hs117) ?_
                refine g_val (v := .bool true) rfl rfl rfl rfl rfl ((ev_t (by omega) (e_eql (a := ((ti.epoch : Nat) : Int)) (b := ((C4.epoch : Nat) : Int)) rfl rfl))) ?_
                refine l_nil ?_
                exact f_owes_d (up_cons (up_cons (up_cons rfl hs119) hs121) hs117) rfl (List.Perm.refl _)
              · rintro f M ⟨k0, k1, -⟩ -
                have hs117 : f 117 = .bool true := k0
                have hs122 : f 122 = .bool true := k1
                refine ob_start (L' := M) (by rfl) (up_cons (up_cons rfl hs117) hs122) ?_
                refine l_val (v := .bool true) rfl rfl rfl (e_pick_t rfl) ?_
                refine l_nil ?_
                exact f_owes_d (up_cons (up_cons rfl hs117) hs122) rfl (List.Perm.refl _)
              · rintro f M ⟨k0, -⟩ -
                have hs123 : f 123 = .bool true := k0
                refine ob_start (L' := M) (by rfl) (up_cons rfl hs123) ?_
                refine l_val (v := .bool true) rfl rfl rfl (e_move) ?_
                refine l_nil ?_
                exact f_owes_d (up_cons rfl hs123) rfl (List.Perm.refl _)
              · rintro f M ⟨k0, -⟩ ⟨i0, -⟩
                have hs12 : f 12 = .pointer (some ⟨b31, 0, none⟩) := i0
                have hs124 : f 124 = .bool true := k0
                refine ob_start (L' := M) (by rfl) (up_cons (up_cons rfl hs12) hs124) ?_
                refine g_val (v := .pointer (some ⟨b31, 4, none⟩)) rfl rfl rfl rfl rfl (e_fieldPt (b := b31) (o := 0) rfl tf50) ?_
                refine l_nil ?_
                exact f_owes_d (up_cons (up_cons rfl hs12) hs124) rfl (List.Perm.refl _)
              · rintro f M ⟨k0, k1, -⟩ -
                have hs125 : f 125 = .pointer (some ⟨b31, 4, none⟩) := k0
                have hs124 : f 124 = .bool true := k1
                refine ob_start (L' := pt b31 (.cells #[Nx (ti.epoch), Nx (ti.next), .slice ps27 (ti.state).length cs29, .slice pr28 (ti.recs).length cr30, Nx (ti.size)] 36) :: M) (by rfl) (up_cons (up_cons rfl hs125) hs124) ?_
                refine g_val (v := Nx (ti.size)) rfl rfl rfl rfl rfl (e_load1 tf25 (v := Nx (ti.size)) rfl (k_pt 0 (cs := #[Nx (ti.epoch), Nx (ti.next), .slice ps27 (ti.state).length cs29, .slice pr28 (ti.recs).length cr30, Nx (ti.size)]) (vs := [Nx (ti.size)]) rfl rfl)) ?_
                refine l_nil ?_
                exact f_owes_d (up_cons (up_cons rfl hs125) hs124) rfl (perm_front 0 rfl)
              · rintro f M ⟨k0, -⟩ ⟨i0, -⟩
                have hs14 : f 14 = Nx (0 + sizes (I3.recs.take wz)) := i0
                have hs124 : f 124 = .bool true := k0
                refine ob_start (L' := M) (by rfl) (up_cons (up_cons rfl hs14) hs124) ?_
                refine g_val (v := Nx (0 + sizes (I3.recs.take wz))) rfl rfl rfl rfl rfl (e_move) ?_
                refine l_nil ?_
                exact f_owes_d (up_cons (up_cons rfl hs14) hs124) rfl (List.Perm.refl _)
              · rintro f M ⟨k0, k1, k2, -⟩ -
                have hs126 : f 126 = Nx (ti.size) := k0
                have hs127 : f 127 = Nx (0 + sizes (I3.recs.take wz)) := k1
                have hs124 : f 124 = .bool true := k2
                refine ob_start (L' := M) (by rfl) (up_cons (up_cons (up_cons rfl hs126) hs127) hs124) ?_
                refine g_val (v := .bool true) rfl rfl rfl rfl rfl ((ev_t (by omega) (e_eql (a := ((ti.size : Nat) : Int)) (b := ((0 + sizes (I3.recs.take wz) : Nat) : Int)) rfl rfl))) ?_
                refine l_nil ?_
                exact f_owes_d (up_cons (up_cons (up_cons rfl hs126) hs127) hs124) rfl (List.Perm.refl _)
              · rintro f M ⟨k0, k1, -⟩ -
                have hs124 : f 124 = .bool true := k0
                have hs128 : f 128 = .bool true := k1
                refine ob_start (L' := M) (by rfl) (up_cons (up_cons rfl hs124) hs128) ?_
                refine l_val (v := .bool true) rfl rfl rfl (e_pick_t rfl) ?_
                refine l_nil ?_
                exact f_owes_d (up_cons (up_cons rfl hs124) hs128) rfl (List.Perm.refl _)
              · rintro f M ⟨k0, -⟩ -
                have hs129 : f 129 = .bool true := k0
                refine ob_start (L' := M) (by rfl) (up_cons rfl hs129) ?_
                refine l_val (v := .bool true) rfl rfl rfl (e_move) ?_
                refine l_nil ?_
                exact f_owes_d (up_cons rfl hs129) rfl (List.Perm.refl _)
              · rintro f M ⟨k0, -⟩ ⟨i0, -⟩
                have hs12 : f 12 = .pointer (some ⟨b31, 0, none⟩) := i0
                have hs130 : f 130 = .bool true := k0
                refine ob_start (L' := M) (by rfl) (up_cons (up_cons rfl hs12) hs130) ?_
                refine g_val (v := .pointer (some ⟨b31, 2, none⟩)) rfl rfl rfl rfl rfl (e_fieldPt (b := b31) (o := 0) rfl tf63) ?_
                refine l_nil ?_
                exact f_owes_d (up_cons (up_cons rfl hs12) hs130) rfl (List.Perm.refl _)
              · rintro f M ⟨k0, k1, -⟩ -
                have hs131 : f 131 = .pointer (some ⟨b31, 2, none⟩) := k0
                have hs130 : f 130 = .bool true := k1
                refine ob_start (L' := pt b31 (.cells #[Nx (ti.epoch), Nx (ti.next), .slice ps27 (ti.state).length cs29, .slice pr28 (ti.recs).length cr30, Nx (ti.size)] 36) :: M) (by rfl) (up_cons (up_cons rfl hs131) hs130) ?_
                refine g_val (v := .slice ps27 (ti.state).length cs29) rfl rfl rfl rfl rfl (e_load1 tf21 (v := .slice ps27 (ti.state).length cs29) rfl (k_pt 0 (cs := #[Nx (ti.epoch), Nx (ti.next), .slice ps27 (ti.state).length cs29, .slice pr28 (ti.recs).length cr30, Nx (ti.size)]) (vs := [.slice ps27 (ti.state).length cs29]) rfl rfl)) ?_
                refine l_nil ?_
                exact f_owes_d (up_cons (up_cons rfl hs131) hs130) rfl (perm_front 0 rfl)
              · rintro f M ⟨k0, k1, -⟩ -
                have hs132 : f 132 = .slice ps27 (ti.state).length cs29 := k0
                have hs130 : f 130 = .bool true := k1
                refine ob_start (L' := row (.slice ps27 (ti.state).length cs29) 5 1 ((ti.state).length) (BX ti.state) :: M) (by rfl) (up_cons (up_cons rfl hs132) hs130) ?_
                refine g_val (v := .string (str ti.state)) rfl rfl rfl rfl rfl (e_bytesStr (a := ps27) (bs := ti.state) (m := (ti.state).length) (c := cs29) rfl (by first | rfl | simp) tf11 tf8 tf7 (k_rowE 0 rfl)) ?_
                refine l_nil ?_
                exact f_owes_d (up_cons (up_cons rfl hs132) hs130) rfl (perm_front 0 rfl)
              · rintro f M ⟨k0, -⟩ ⟨i0, -⟩
                have hs8 : f 8 = .pointer (some ⟨b7, 0, none⟩) := i0
                have hs130 : f 130 = .bool true := k0
                refine ob_start (L' := M) (by rfl) (up_cons (up_cons rfl hs8) hs130) ?_
                refine g_val (v := .pointer (some ⟨b7, 2, none⟩)) rfl rfl rfl rfl rfl (e_fieldPt (b := b7) (o := 0) rfl tf93) ?_
                refine l_nil ?_
                exact f_owes_d (up_cons (up_cons rfl hs8) hs130) rfl (List.Perm.refl _)
              · rintro f M ⟨k0, k1, -⟩ -
                have hs134 : f 134 = .pointer (some ⟨b7, 2, none⟩) := k0
                have hs130 : f 130 = .bool true := k1
                refine ob_start (L' := pt b7 (.cells #[Nx (C4.epoch), Nx (C4.next), .string (C4.state), .slice p5 (C4.recs).length c6] 27) :: M) (by rfl) (up_cons (up_cons rfl hs134) hs130) ?_
                refine g_val (v := .string (C4.state)) rfl rfl rfl rfl rfl (e_load1 tf6 (v := .string (C4.state)) rfl (k_pt 0 (cs := #[Nx (C4.epoch), Nx (C4.next), .string (C4.state), .slice p5 (C4.recs).length c6]) (vs := [.string (C4.state)]) rfl rfl)) ?_
                refine l_nil ?_
                exact f_owes_d (up_cons (up_cons rfl hs134) hs130) rfl (perm_front 0 rfl)
              · rintro f M ⟨k0, k1, k2, -⟩ -
                have hs133 : f 133 = .string (str ti.state) := k0
                have hs135 : f 135 = .string (C4.state) := k1
                have hs130 : f 130 = .bool true := k2
                refine ob_start (L' := M) (by rfl) (up_cons (up_cons (up_cons rfl hs133) hs135) hs130) ?_
                refine g_val (v := .bool true) rfl rfl rfl rfl rfl ((ev_t (by rw [htst]; exact hC.2.2.1) (e_eql_s (a := (str ti.state)) (b := C4.state) rfl rfl))) ?_
                refine l_nil ?_
                exact f_owes_d (up_cons (up_cons (up_cons rfl hs133) hs135) hs130) rfl (List.Perm.refl _)
              · rintro f M ⟨k0, k1, -⟩ -
                have hs130 : f 130 = .bool true := k0
                have hs136 : f 136 = .bool true := k1
                refine ob_start (L' := M) (by rfl) (up_cons (up_cons rfl hs130) hs136) ?_
                refine l_val (v := .bool true) rfl rfl rfl (e_pick_t rfl) ?_
                refine l_nil ?_
                exact f_owes_d (up_cons (up_cons rfl hs130) hs136) rfl (List.Perm.refl _)
              · rintro f M ⟨k0, -⟩ -
                have hs137 : f 137 = .bool true := k0
                refine ob_start (L' := M) (by rfl) (up_cons rfl hs137) ?_
                refine l_val (v := .bool true) rfl rfl rfl (e_move) ?_
                refine l_nil ?_
                exact f_owes_d (up_cons rfl hs137) rfl (List.Perm.refl _)
              · rintro f M ⟨k0, -⟩ ⟨i0, -⟩
                have hs12 : f 12 = .pointer (some ⟨b31, 0, none⟩) := i0
                have hs138 : f 138 = .bool true := k0
                refine ob_start (L' := M) (by rfl) (up_cons (up_cons rfl hs12) hs138) ?_
                refine g_val (v := .pointer (some ⟨b31, 3, none⟩)) rfl rfl rfl rfl rfl (e_fieldPt (b := b31) (o := 0) rfl tf64) ?_
                refine l_nil ?_
                exact f_owes_d (up_cons (up_cons rfl hs12) hs138) rfl (List.Perm.refl _)
              · rintro f M ⟨k0, k1, -⟩ -
                have hs139 : f 139 = .pointer (some ⟨b31, 3, none⟩) := k0
                have hs138 : f 138 = .bool true := k1
                refine ob_start (L' := pt b31 (.cells #[Nx (ti.epoch), Nx (ti.next), .slice ps27 (ti.state).length cs29, .slice pr28 (ti.recs).length cr30, Nx (ti.size)] 36) :: M) (by rfl) (up_cons (up_cons rfl hs139) hs138) ?_
                refine g_val (v := .slice pr28 (ti.recs).length cr30) rfl rfl rfl rfl rfl (e_load1 tf65 (v := .slice pr28 (ti.recs).length cr30) rfl (k_pt 0 (cs := #[Nx (ti.epoch), Nx (ti.next), .slice ps27 (ti.state).length cs29, .slice pr28 (ti.recs).length cr30, Nx (ti.size)]) (vs := [.slice pr28 (ti.recs).length cr30]) rfl rfl)) ?_
                refine l_nil ?_
                exact f_owes_d (up_cons (up_cons rfl hs139) hs138) rfl (perm_front 0 rfl)
              · rintro f M ⟨k0, k1, -⟩ -
                have hs140 : f 140 = .slice pr28 (ti.recs).length cr30 := k0
                have hs138 : f 138 = .bool true := k1
                refine ob_start (L' := recsR 30 pr28 cr30 ti.recs :: M) (by rfl) (up_cons (up_cons rfl hs140) hs138) ?_
                refine g_call rfl rfl rfl rfl rfl (cl_value (fst := []) (cap := []) (vs := [.slice pr28 (ti.recs).length cr30]) (all := [.slice pr28 (ti.recs).length cr30]) tf95 rfl rfl rfl) ?_
                intro w hw
                obtain ⟨β1, sb, kn, hw1, back⟩ := St.frame_all hw
                refine (text_ok β1 w hw1 ti.recs _ (by omega) (kn _ (Knows.of_res 0 rfl (Sl.mono BsR _ _) fun _ h => recs_sl h))).mono ?_
                rintro e w' ⟨p49, c50, rfl, hw'⟩
                refine ⟨_, rfl, _, back _ _ hw', ?_⟩
                clear hw hw1 hw' back kn sb
                refine l_nil ?_
                exact f_owes_d (up_cons (up_cons rfl hs140) hs138) rfl ((perm_front 0 rfl).trans (perm_front 1 rfl))
              · rintro f M ⟨k0, -⟩ ⟨i0, -⟩
                have hs8 : f 8 = .pointer (some ⟨b7, 0, none⟩) := i0
                have hs138 : f 138 = .bool true := k0
                refine ob_start (L' := M) (by rfl) (up_cons (up_cons rfl hs8) hs138) ?_
                refine g_val (v := .pointer (some ⟨b7, 3, none⟩)) rfl rfl rfl rfl rfl (e_fieldPt (b := b7) (o := 0) rfl tf96) ?_
                refine l_nil ?_
                exact f_owes_d (up_cons (up_cons rfl hs8) hs138) rfl (List.Perm.refl _)
              · rintro f M ⟨k0, k1, -⟩ -
                have hs142 : f 142 = .pointer (some ⟨b7, 3, none⟩) := k0
                have hs138 : f 138 = .bool true := k1
                refine ob_start (L' := pt b7 (.cells #[Nx (C4.epoch), Nx (C4.next), .string (C4.state), .slice p5 (C4.recs).length c6] 27) :: M) (by rfl) (up_cons (up_cons rfl hs142) hs138) ?_
                refine g_val (v := .slice p5 (C4.recs).length c6) rfl rfl rfl rfl rfl (e_load1 tf97 (v := .slice p5 (C4.recs).length c6) rfl (k_pt 0 (cs := #[Nx (C4.epoch), Nx (C4.next), .string (C4.state), .slice p5 (C4.recs).length c6]) (vs := [.slice p5 (C4.recs).length c6]) rfl rfl)) ?_
                refine l_nil ?_
                exact f_owes_d (up_cons (up_cons rfl hs142) hs138) rfl (perm_front 0 rfl)
              · rintro f M ⟨k0, -⟩ ⟨i0, -⟩
                have hs15 : f 15 = Nx (wz) := i0
                have hs138 : f 138 = .bool true := k0
                refine ob_start (L' := M) (by rfl) (up_cons (up_cons rfl hs15) hs138) ?_
                refine g_val (v := Nx (wz)) rfl rfl rfl rfl rfl (e_move) ?_
                refine l_nil ?_
                exact f_owes_d (up_cons (up_cons rfl hs15) hs138) rfl (List.Perm.refl _)
              · rintro f M ⟨k0, k1, k2, -⟩ -
                have hs143 : f 143 = .slice p5 (C4.recs).length c6 := k0
                have hs144 : f 144 = Nx (wz) := k1
                have hs138 : f 138 = .bool true := k2
                refine ob_start (L' := M) (by rfl) (up_cons (up_cons (up_cons rfl hs143) hs144) hs138) ?_
                refine g_val (v := .slice p5 (wz) c6) rfl rfl rfl rfl rfl (e_slice_hi (a := p5) (len := (C4.recs).length) (cap := c6) (h := wz) tf78 rfl rfl (by omega)) ?_
                refine l_nil ?_
                exact f_owes_d (up_cons (up_cons (up_cons rfl hs143) hs144) hs138) rfl (List.Perm.refl _)
              · rintro f M ⟨k0, k1, k2, -⟩ -
                have hs141 : f 141 = .slice (sla (f 141)) (ti.recs.map str).length (slc (f 141)) := k0
                have hs145 : f 145 = .slice p5 (wz) c6 := k1
                have hs138 : f 138 = .bool true := k2
                refine ob_start (L' := row (.slice p5 (C4.recs).length c6) 9 1 ((C4.recs).length) (C4.recs.map (fun s : ByteArray => Value.string s)) :: row (.slice (sla (f 141)) (ti.recs.map str).length (slc (f 141))) 9 1 ((ti.recs.map str).length) ((ti.recs.map str).map (fun s : ByteArray => Value.string s)) :: M) (by rfl) (up_cons (up_cons (up_cons rfl hs141) hs145) hs138) ?_
                refine g_call rfl rfl rfl rfl rfl (cl_value (fst := []) (cap := []) (vs := [.slice (sla (f 141)) (ti.recs.map str).length (slc (f 141)), .slice p5 (wz) c6]) (all := [.slice (sla (f 141)) (ti.recs.map str).length (slc (f 141)), .slice p5 (wz) c6]) tf98 rfl rfl rfl) ?_
                intro w hw
                obtain ⟨β1, sb, kn, hw1, back⟩ := St.frame_all hw
                refine (samet_ok β1 w hw1 (ti.recs.map str) (C4.recs.take wz) _ _ (kn _ (Knows.of_res 1 rfl (Sl.mono StrR _ _) fun _ h => row_str h)) (kn _ (Knows.of_res 0 rfl (Sl.mono StrR _ _) fun _ h => row_str_take h (by omega)))).mono ?_
                rintro e w' ⟨rfl, hw'⟩
                refine ⟨_, rfl, _, back _ _ hw', ?_⟩
                clear hw hw1 hw' back kn sb
                refine l_nil ?_
                exact f_owes_d (up_cons (up_cons (up_cons rfl hs141) hs145) hs138) (congrArg Value.bool (decide_eq_true (by rw [htr, List.map_take, hC.2.2.2]))) ((perm_front 1 rfl).trans (perm_front 1 rfl))
              · rintro f M ⟨k0, k1, -⟩ -
                have hs138 : f 138 = .bool true := k0
                have hs146 : f 146 = .bool true := k1
                refine ob_start (L' := M) (by rfl) (up_cons (up_cons rfl hs138) hs146) ?_
                refine l_val (v := .bool true) rfl rfl rfl (e_pick_t rfl) ?_
                refine l_nil ?_
                exact f_owes_d (up_cons (up_cons rfl hs138) hs146) rfl (List.Perm.refl _)
              · rintro f M ⟨k0, -⟩ -
                have hs147 : f 147 = .bool true := k0
                refine ob_start (L' := M) (by rfl) (up_cons rfl hs147) ?_
                refine l_val (v := .bool true) rfl rfl rfl (e_move) ?_
                refine l_nil ?_
                exact f_owes_d (up_cons rfl hs147) rfl (List.Perm.refl _)
              · rintro f M ⟨k0, -⟩ ⟨i0, -⟩
                have hs12 : f 12 = .pointer (some ⟨b31, 0, none⟩) := i0
                have hs148 : f 148 = .bool true := k0
                refine ob_start (L' := M) (by rfl) (up_cons (up_cons rfl hs12) hs148) ?_
                refine g_val (v := .pointer (some ⟨b31, 1, none⟩)) rfl rfl rfl rfl rfl (e_fieldPt (b := b31) (o := 0) rfl tf53) ?_
                refine l_nil ?_
                exact f_owes_d (up_cons (up_cons rfl hs12) hs148) rfl (List.Perm.refl _)
              · rintro f M ⟨k0, k1, -⟩ -
                have hs149 : f 149 = .pointer (some ⟨b31, 1, none⟩) := k0
                have hs148 : f 148 = .bool true := k1
                refine ob_start (L' := pt b31 (.cells #[Nx (ti.epoch), Nx (ti.next), .slice ps27 (ti.state).length cs29, .slice pr28 (ti.recs).length cr30, Nx (ti.size)] 36) :: M) (by rfl) (up_cons (up_cons rfl hs149) hs148) ?_
                refine g_val (v := Nx (ti.next)) rfl rfl rfl rfl rfl (e_load1 tf25 (v := Nx (ti.next)) rfl (k_pt 0 (cs := #[Nx (ti.epoch), Nx (ti.next), .slice ps27 (ti.state).length cs29, .slice pr28 (ti.recs).length cr30, Nx (ti.size)]) (vs := [Nx (ti.next)]) rfl rfl)) ?_
                refine l_nil ?_
                exact f_owes_d (up_cons (up_cons rfl hs149) hs148) rfl (perm_front 0 rfl)
              · rintro f M ⟨k0, -⟩ ⟨i0, -⟩
                have hs8 : f 8 = .pointer (some ⟨b7, 0, none⟩) := i0
                have hs148 : f 148 = .bool true := k0
                refine ob_start (L' := M) (by rfl) (up_cons (up_cons rfl hs8) hs148) ?_
                refine g_val (v := .pointer (some ⟨b7, 1, none⟩)) rfl rfl rfl rfl rfl (e_fieldPt (b := b7) (o := 0) rfl tf91) ?_
                refine l_nil ?_
                exact f_owes_d (up_cons (up_cons rfl hs8) hs148) rfl (List.Perm.refl _)
              · rintro f M ⟨k0, k1, -⟩ -
                have hs151 : f 151 = .pointer (some ⟨b7, 1, none⟩) := k0
                have hs148 : f 148 = .bool true := k1
                refine ob_start (L' := pt b7 (.cells #[Nx (C4.epoch), Nx (C4.next), .string (C4.state), .slice p5 (C4.recs).length c6] 27) :: M) (by rfl) (up_cons (up_cons rfl hs151) hs148) ?_
                refine g_val (v := Nx (C4.next)) rfl rfl rfl rfl rfl (e_load1 tf25 (v := Nx (C4.next)) rfl (k_pt 0 (cs := #[Nx (C4.epoch), Nx (C4.next), .string (C4.state), .slice p5 (C4.recs).length c6]) (vs := [Nx (C4.next)]) rfl rfl)) ?_
                refine l_nil ?_
                exact f_owes_d (up_cons (up_cons rfl hs151) hs148) rfl (perm_front 0 rfl)
              · rintro f M ⟨k0, -⟩ ⟨i0, -⟩
                have hs8 : f 8 = .pointer (some ⟨b7, 0, none⟩) := i0
                have hs148 : f 148 = .bool true := k0
                refine ob_start (L' := M) (by rfl) (up_cons (up_cons rfl hs8) hs148) ?_
                refine g_val (v := .pointer (some ⟨b7, 3, none⟩)) rfl rfl rfl rfl rfl (e_fieldPt (b := b7) (o := 0) rfl tf96) ?_
                refine l_nil ?_
                exact f_owes_d (up_cons (up_cons rfl hs8) hs148) rfl (List.Perm.refl _)
              · rintro f M ⟨k0, k1, -⟩ -
                have hs153 : f 153 = .pointer (some ⟨b7, 3, none⟩) := k0
                have hs148 : f 148 = .bool true := k1
                refine ob_start (L' := pt b7 (.cells #[Nx (C4.epoch), Nx (C4.next), .string (C4.state), .slice p5 (C4.recs).length c6] 27) :: M) (by rfl) (up_cons (up_cons rfl hs153) hs148) ?_
                refine g_val (v := .slice p5 (C4.recs).length c6) rfl rfl rfl rfl rfl (e_load1 tf97 (v := .slice p5 (C4.recs).length c6) rfl (k_pt 0 (cs := #[Nx (C4.epoch), Nx (C4.next), .string (C4.state), .slice p5 (C4.recs).length c6]) (vs := [.slice p5 (C4.recs).length c6]) rfl rfl)) ?_
                refine l_nil ?_
                exact f_owes_d (up_cons (up_cons rfl hs153) hs148) rfl (perm_front 0 rfl)
              · rintro f M ⟨k0, k1, -⟩ -
                have hs154 : f 154 = .slice p5 (C4.recs).length c6 := k0
                have hs148 : f 148 = .bool true := k1
                refine ob_start (L' := M) (by rfl) (up_cons (up_cons rfl hs154) hs148) ?_
                refine g_val (v := Nx ((C4.recs).length)) rfl rfl rfl rfl rfl (e_len (a := p5) (n := (C4.recs).length) (c := c6) rfl tf81) ?_
                refine l_nil ?_
                exact f_owes_d (up_cons (up_cons rfl hs154) hs148) rfl (List.Perm.refl _)
              · rintro f M ⟨k0, k1, k2, -⟩ -
                have hs152 : f 152 = Nx (C4.next) := k0
                have hs155 : f 155 = Nx ((C4.recs).length) := k1
                have hs148 : f 148 = .bool true := k2
                refine ob_start (L' := M) (by rfl) (up_cons (up_cons (up_cons rfl hs152) hs155) hs148) ?_
                refine g_val (v := Ix (((C4.next : Nat) : Int) - (((C4.recs).length : Nat) : Int))) rfl rfl rfl rfl rfl (e_sub (a := ((C4.next : Nat) : Int)) (b := (((C4.recs).length : Nat) : Int)) rfl rfl (i64w (by omega))) ?_
                refine l_nil ?_
                exact f_owes_d (up_cons (up_cons (up_cons rfl hs152) hs155) hs148) rfl (List.Perm.refl _)
              · rintro f M ⟨k0, -⟩ ⟨i0, -⟩
                have hs15 : f 15 = Nx (wz) := i0
                have hs148 : f 148 = .bool true := k0
                refine ob_start (L' := M) (by rfl) (up_cons (up_cons rfl hs15) hs148) ?_
                refine g_val (v := Nx (wz)) rfl rfl rfl rfl rfl (e_move) ?_
                refine l_nil ?_
                exact f_owes_d (up_cons (up_cons rfl hs15) hs148) rfl (List.Perm.refl _)
              · rintro f M ⟨k0, k1, k2, -⟩ -
                have hs156 : f 156 = Ix (((C4.next : Nat) : Int) - (((C4.recs).length : Nat) : Int)) := k0
                have hs157 : f 157 = Nx (wz) := k1
                have hs148 : f 148 = .bool true := k2
                refine ob_start (L' := M) (by rfl) (up_cons (up_cons (up_cons rfl hs156) hs157) hs148) ?_
                refine g_val (v := Ix ((((C4.next : Nat) : Int) - (((C4.recs).length : Nat) : Int)) + ((wz : Nat) : Int))) rfl rfl rfl rfl rfl (e_add (a := (((C4.next : Nat) : Int) - (((C4.recs).length : Nat) : Int))) (b := ((wz : Nat) : Int)) rfl rfl (i64w (by omega))) ?_
                refine l_nil ?_
                exact f_owes_d (up_cons (up_cons (up_cons rfl hs156) hs157) hs148) rfl (List.Perm.refl _)
              · rintro f M ⟨k0, k1, k2, -⟩ -
                have hs150 : f 150 = Nx (ti.next) := k0
                have hs158 : f 158 = Ix ((((C4.next : Nat) : Int) - (((C4.recs).length : Nat) : Int)) + ((wz : Nat) : Int)) := k1
                have hs148 : f 148 = .bool true := k2
                refine ob_start (L' := M) (by rfl) (up_cons (up_cons (up_cons rfl hs150) hs158) hs148) ?_
                refine g_val (v := .bool true) rfl rfl rfl rfl rfl ((ev_t (by omega) (e_eql (a := ((ti.next : Nat) : Int)) (b := ((((C4.next : Nat) : Int) - (((C4.recs).length : Nat) : Int)) + ((wz : Nat) : Int))) rfl rfl))) ?_
                refine l_nil ?_
                exact f_owes_d (up_cons (up_cons (up_cons rfl hs150) hs158) hs148) rfl (List.Perm.refl _)
              · rintro f M ⟨k0, k1, -⟩ -
                have hs148 : f 148 = .bool true := k0
                have hs159 : f 159 = .bool true := k1
                refine ob_start (L' := M) (by rfl) (up_cons (up_cons rfl hs148) hs159) ?_
                refine l_val (v := .bool true) rfl rfl rfl (e_pick_t rfl) ?_
                refine l_nil ?_
                exact f_owes_d (up_cons (up_cons rfl hs148) hs159) rfl (List.Perm.refl _)
              · rintro f M ⟨k0, -⟩ -
                have hs160 : f 160 = .bool true := k0
                refine ob_start (L' := M) (by rfl) (up_cons rfl hs160) ?_
                refine l_val (v := .bool true) rfl rfl rfl (e_move) ?_
                refine l_nil ?_
                exact f_owes_d (up_cons rfl hs160) rfl (List.Perm.refl _)
              · rintro f M ⟨k0, -⟩ -
                have hs161 : f 161 = .bool true := k0
                refine ob_start (L' := M) (by rfl) (up_cons rfl hs161) ?_
                refine g_call rfl rfl rfl rfl rfl (cl_value (fst := []) (cap := []) (vs := []) (all := []) tf111 rfl rfl rfl) ?_
                intro w hw
                obtain ⟨β1, sb, kn, hw1, back⟩ := St.frame_all hw
                refine (awake_ok β1 w hw1).mono ?_
                rintro e w' ⟨rfl, hw'⟩
                refine ⟨_, rfl, _, back _ _ hw', ?_⟩
                clear hw hw1 hw' back kn sb
                refine l_nil ?_
                exact f_owes_d (up_cons rfl hs161) rfl (List.Perm.refl _)
              · rintro f M ⟨k0, k1, -⟩ -
                have hs161 : f 161 = .bool true := k0
                have hs162 : f 162 = .bool true := k1
                refine ob_start (L' := M) (by rfl) (up_cons (up_cons rfl hs161) hs162) ?_
                refine l_val (v := .bool true) rfl rfl rfl (e_pick_t rfl) ?_
                refine l_nil ?_
                exact f_owes_d (up_cons (up_cons rfl hs161) hs162) rfl (List.Perm.refl _)
              · rintro f M ⟨k0, -⟩ -
                have hs163 : f 163 = .bool true := k0
                refine ob_start (L' := M) (by rfl) (up_cons rfl hs163) ?_
                refine l_val (v := .bool true) rfl rfl rfl (e_assign) ?_
                refine l_nil ?_
                exact f_owes_d (up_cons rfl hs163) rfl (List.Perm.refl _)
              rintro fa51 ⟨-, -, -, -, -, -, -, -, -, -, -, -, -, -, -, -, -, -, -, -, -, -, -, -, -, -, -, -, -, -, -, -, -, -, -, -, -, -, -, -, -, -, -, -, -, -, -, -, -, k49, -⟩ -
              refine f_re (L' := [pt b31 (.cells #[Nx (ti.epoch), Nx (ti.next), .slice ps27 (ti.state).length cs29, .slice pr28 (ti.recs).length cr30, Nx (ti.size)] 36), row (.slice ps27 (ti.state).length cs29) 5 1 ((ti.state).length) (BX ti.state), recsR 30 pr28 cr30 ti.recs, pt S1 (.cells #[.slice pH8 (K2.head).length cH11, .slice pA9 (K2.a).length cA12, .slice pB10 ((K2.b.set (at_ % ((K2.b).length)) (c22 ^^^ (max by_ (1 : UInt8))))).length cB13, Ix (K2.power)] 32), row (.slice pH8 (K2.head).length cH11) 5 1 ((K2.head).length) (BX K2.head), row (.slice pA9 (K2.a).length cA12) 5 1 ((K2.a).length) (BX K2.a), row (.slice pB10 ((K2.b.set (at_ % ((K2.b).length)) (c22 ^^^ (max by_ (1 : UInt8))))).length cB13) 5 1 (((K2.b.set (at_ % ((K2.b).length)) (c22 ^^^ (max by_ (1 : UInt8))))).length) (BX (K2.b.set (at_ % ((K2.b).length)) (c22 ^^^ (max by_ (1 : UInt8))))), pt b7 (.cells #[Nx (C4.epoch), Nx (C4.next), .string (C4.state), .slice p5 (C4.recs).length c6] 27), row (.slice p5 (C4.recs).length c6) 9 1 ((C4.recs).length) (C4.recs.map (fun s : ByteArray => Value.string s)), row (.slice (sla (fa51 141)) (ti.recs.map str).length (slc (fa51 141))) 9 1 ((ti.recs.map str).length) ((ti.recs.map str).map (fun s : ByteArray => Value.string s))]) (by rfl) ?_
              refine f_rebase (d := 6) (v := .bool true) k49 ?_
              refine f_then ?_
              refine c_ret ?_
              refine ret1 Try.results3 (v := .bool true) rfl ?_
              intro w hw
              exact ⟨rfl, st_mask [false, false, false, false, false, false, false, false, false, false] rfl hw⟩
          ·
            refine l_skip rfl rfl rfl rfl rfl rfl ?_
            refine l_skip rfl rfl rfl rfl rfl rfl ?_
            refine l_skip rfl rfl rfl rfl rfl rfl ?_
            refine l_skip rfl rfl rfl rfl rfl rfl ?_
            refine l_skip rfl rfl rfl rfl rfl rfl ?_
            refine l_skip rfl rfl rfl rfl rfl rfl ?_
            refine l_skip rfl rfl rfl rfl rfl rfl ?_
            refine l_skip rfl rfl rfl rfl rfl rfl ?_
            refine l_skip rfl rfl rfl rfl rfl rfl ?_
            refine l_skip rfl rfl rfl rfl rfl rfl ?_
            refine l_skip rfl rfl rfl rfl rfl rfl ?_
            refine l_val (v := .bool false) rfl rfl rfl (e_pick_f rfl) ?_
            refine l_nil ?_
            refine f_then ?_
            refine c_no rfl ?_
            refine c_exit ?_
            refine f_then_exit ?_
            refine f_then_exit ?_
            refine f_exit ?_
            refine f_then ?_
            refine c_seq ?_
            exfalso
            have h1 := sizes_take_mono (l := I3.recs) (show tw + 1 ≤ wz by omega)
            rw [sizes_take_succ ht1] at h1
            omega
  ·
    have hpar : I3.epoch % 2 = 0 := by omega
    refine c_skip ?_
    refine f_then ?_
    refine c_seq ?_
    refine c_seq ?_
    refine c_region ?_
    refine l_val (v := .slice pA9 (K2.a).length cA12) rfl rfl rfl (e_move) ?_
    refine l_val (v := Nx ((K2.a).length)) rfl rfl rfl (e_len (a := pA9) (n := (K2.a).length) (c := cA12) rfl tf11) ?_
    refine l_val (v := .bool (decide ((((K2.a).length : Nat) : Int) = (0 : Int)))) rfl rfl rfl (e_eql (a := (((K2.a).length : Nat) : Int)) (b := (0 : Int)) rfl rfl) ?_
    refine l_nil ?_
    refine f_then ?_
    refine c_if ((((K2.a).length : Nat) : Int) = (0 : Int)) rfl (fun hc52 => ?_) (fun hc52 => ?_)
    ·
      refine c_seq ?_
      refine c_region ?_
      refine l_call rfl rfl rfl (cl_value (fst := []) (cap := []) (vs := []) (all := []) tf111 rfl rfl rfl) ?_
      intro w hw
      obtain ⟨β1, sb, kn, hw1, back⟩ := St.frame_all hw
      refine (awake_ok β1 w hw1).mono ?_
      rintro e w' ⟨rfl, hw'⟩
      refine ⟨_, rfl, _, back _ _ hw', ?_⟩
      clear hw hw1 hw' back kn sb
      refine l_val (v := .bool true) rfl rfl rfl (e_assign) ?_
      refine l_nil ?_
      refine f_then ?_
      refine c_ret ?_
      refine f_then_ret ?_
      refine ret1 Try.results3 (v := .bool true) rfl ?_
      intro w hw
      exact ⟨rfl, st_mask [false, false, false, false, false, false] rfl hw⟩
    ·
      refine c_skip ?_
      refine f_then ?_
      refine c_seq ?_
      refine c_region ?_
      refine l_val (v := .int .u16 (((at_ : Nat)) : Int)) rfl rfl rfl (e_move) ?_
      refine l_val (v := Nx (at_)) rfl rfl rfl (e_conv (a := ((at_ : Nat) : Int)) rfl ⟨_, tf118⟩ tf1 (i64n rfl (by omega))) ?_
      refine l_val (v := .slice pA9 (K2.a).length cA12) rfl rfl rfl (e_move) ?_
      refine l_val (v := Nx ((K2.a).length)) rfl rfl rfl (e_len (a := pA9) (n := (K2.a).length) (c := cA12) rfl tf11) ?_
      refine l_val (v := Nx (at_ % ((K2.a).length))) rfl rfl rfl (e_rem (a := ((at_ : Nat) : Int)) (b := (((K2.a).length : Nat) : Int)) rfl rfl (by omega) (nat_tmod _ _)) ?_
      refine l_val (v := Nx (at_ % ((K2.a).length))) rfl rfl rfl (e_assign) ?_
      refine l_nil ?_
      refine f_then ?_
      refine c_seq ?_
      have hkl : at_ % (K2.a.length) < K2.a.length := Nat.mod_lt _ (by omega)
      refine c_region ?_
      refine l_val (v := .slice pA9 (K2.a).length cA12) rfl rfl rfl (e_move) ?_
      refine l_val (v := Nx (at_ % ((K2.a).length))) rfl rfl rfl (e_move) ?_
      refine l_val (v := .pointer (some ((ba pA9).add ((at_ % ((K2.a).length)) * 1)))) rfl rfl rfl (e_indexRow 2 (j := at_ % ((K2.a).length)) (len := (K2.a).length) (cap := cA12) (p := pA9) rfl rfl tf12 (by omega) (by omega) rfl) ?_
      obtain ⟨c53, hc54⟩ : ∃ c, K2.a[(at_ % ((K2.a).length))]? = some c := ⟨_, List.getElem?_eq_getElem (by omega)⟩
      refine l_val (v := Bx (c53)) rfl rfl rfl (e_load1 tf13 (v := Bx (c53)) rfl (k_row 2 (o := (at_ % ((K2.a).length)) * 1) (us := [Bx (c53)]) rfl (bx_at hc54) (Nat.succ_pos _))) ?_
      refine l_val (v := Bx (by_)) rfl rfl rfl (e_move) ?_
      refine l_val (v := Bx (max by_ (1 : UInt8))) rfl rfl rfl (ev_eq (congrArg (Value.int .u8) (bx_max _ _)) (e_max (a := ((by_).toNat : Int)) (b := ((1 : UInt8).toNat : Int)) rfl rfl)) ?_
      refine l_val (v := Bx (c53 ^^^ (max by_ (1 : UInt8)))) rfl rfl rfl (e_xor (a := ((c53).toNat : Int)) (b := ((max by_ (1 : UInt8)).toNat : Int)) rfl rfl (bx_xor _ _)) ?_
      refine l_val (v := .pointer (some ((ba pA9).add ((at_ % ((K2.a).length)) * 1)))) rfl rfl rfl (e_indexRow 2 (j := at_ % ((K2.a).length)) (len := (K2.a).length) (cap := cA12) (p := pA9) rfl rfl tf12 (by omega) (by omega) rfl) ?_
      refine l_mu rfl rfl (m_storeRow 2 tf13 (o := (at_ % ((K2.a).length)) * 1) (v := Bx (c53 ^^^ (max by_ (1 : UInt8)))) rfl rfl rfl rfl rfl (by omega) (by omega)) ?_
      refine l_re (L' := [pt S1 (.cells #[.slice pH8 (K2.head).length cH11, .slice pA9 ((K2.a.set (at_ % ((K2.a).length)) (c53 ^^^ (max by_ (1 : UInt8))))).length cA12, .slice pB10 (K2.b).length cB13, Ix (K2.power)] 32), row (.slice pH8 (K2.head).length cH11) 5 1 ((K2.head).length) (BX K2.head), row (.slice pA9 ((K2.a.set (at_ % ((K2.a).length)) (c53 ^^^ (max by_ (1 : UInt8))))).length cA12) 5 1 (((K2.a.set (at_ % ((K2.a).length)) (c53 ^^^ (max by_ (1 : UInt8))))).length) (BX (K2.a.set (at_ % ((K2.a).length)) (c53 ^^^ (max by_ (1 : UInt8))))), row (.slice pB10 (K2.b).length cB13) 5 1 ((K2.b).length) (BX K2.b), pt b7 (.cells #[Nx (C4.epoch), Nx (C4.next), .string (C4.state), .slice p5 (C4.recs).length c6] 27), row (.slice p5 (C4.recs).length c6) 9 1 ((C4.recs).length) (C4.recs.map (fun s : ByteArray => Value.string s))]) (by show [pt S1 (.cells #[.slice pH8 (K2.head).length cH11, .slice pA9 (K2.a).length cA12, .slice pB10 (K2.b).length cB13, Ix (K2.power)] 32), row (.slice pH8 (K2.head).length cH11) 5 1 ((K2.head).length) (BX K2.head), row (.slice pA9 (K2.a).length cA12) 5 1 ((K2.a).length) ((overL (BX K2.a) ((at_ % ((K2.a).length)) * 1) [Bx (c53 ^^^ (max by_ (1 : UInt8)))])), row (.slice pB10 (K2.b).length cB13) 5 1 ((K2.b).length) (BX K2.b), pt b7 (.cells #[Nx (C4.epoch), Nx (C4.next), .string (C4.state), .slice p5 (C4.recs).length c6] 27), row (.slice p5 (C4.recs).length c6) 9 1 ((C4.recs).length) (C4.recs.map (fun s : ByteArray => Value.string s))] = _; rw [overL_bx (by omega)]; simp only [List.length_set]) ?_
      refine l_nil ?_
      refine f_then ?_
      refine c_seq ?_
      have har := area_even (k := K2) hpar
      have hcx : (encI I3)[at_ % ((K2.a).length)]? = some c53 := by rw [← hI.exact, har]; exact hc54
      have hne : c53 ≠ c53 ^^^ (max by_ (1 : UInt8)) := xor8_ne (max8_ne _)
      have hok : ({ K2 with a := K2.a.set (at_ % ((K2.a).length)) (c53 ^^^ (max by_ (1 : UInt8))) } : KS).okP := by have h0 := hI.okP (show 8 ≤ 100 by omega); unfold KS.okP at h0 ⊢; simpa using h0
      rcases torn_read (K' := ({ K2 with a := K2.a.set (at_ % ((K2.a).length)) (c53 ^^^ (max by_ (1 : UInt8))) } : KS)) hI hcx hne rfl (by rw [← hI.exact, har]; exact area_even hpar) with ⟨⟨hA1, hA2⟩, hri⟩ | ⟨hB, tw, tr, ht1, ht2, ht3, hri⟩
      ·
        refine c_region ?_
        refine l_val (v := .pointer (some ⟨S1, 0, none⟩)) rfl rfl rfl (e_move) ?_
        refine l_val (v := .pointer (some ⟨S1, 0, none⟩)) rfl rfl rfl (e_nil (a := ⟨S1, 0, none⟩) rfl) ?_
        refine l_val (v := .agg #[.slice pH8 (K2.head).length cH11, .slice pA9 ((K2.a.set (at_ % ((K2.a).length)) (c53 ^^^ (max by_ (1 : UInt8))))).length cA12, .slice pB10 (K2.b).length cB13, Ix (K2.power)]) rfl rfl rfl (e_load tf56 (cs := [.slice pH8 (K2.head).length cH11, .slice pA9 ((K2.a.set (at_ % ((K2.a).length)) (c53 ^^^ (max by_ (1 : UInt8))))).length cA12, .slice pB10 (K2.b).length cB13, Ix (K2.power)]) rfl (k_pt 0 (cs := #[.slice pH8 (K2.head).length cH11, .slice pA9 ((K2.a.set (at_ % ((K2.a).length)) (c53 ^^^ (max by_ (1 : UInt8))))).length cA12, .slice pB10 (K2.b).length cB13, Ix (K2.power)]) (vs := [.slice pH8 (K2.head).length cH11, .slice pA9 ((K2.a.set (at_ % ((K2.a).length)) (c53 ^^^ (max by_ (1 : UInt8))))).length cA12, .slice pB10 (K2.b).length cB13, Ix (K2.power)]) rfl rfl) rfl) ?_
        refine l_call rfl rfl rfl (cl_value (fst := []) (cap := []) (vs := [.agg #[.slice pH8 (K2.head).length cH11, .slice pA9 ((K2.a.set (at_ % ((K2.a).length)) (c53 ^^^ (max by_ (1 : UInt8))))).length cA12, .slice pB10 (K2.b).length cB13, Ix (K2.power)]]) (all := [.agg #[.slice pH8 (K2.head).length cH11, .slice pA9 ((K2.a.set (at_ % ((K2.a).length)) (c53 ^^^ (max by_ (1 : UInt8))))).length cA12, .slice pB10 (K2.b).length cB13, Ix (K2.power)]]) tf69 rfl rfl rfl) ?_
        intro w hw
        obtain ⟨β1, sb, kn, hw1, back⟩ := St.frame_all hw
        refine (readC_form β1 w hw1 ({ K2 with a := K2.a.set (at_ % ((K2.a).length)) (c53 ^^^ (max by_ (1 : UInt8))) } : KS) _ _ _ (kn _ (Knows.of_res 1 rfl (Sl.mono U8R _ _) fun _ h => row_u8 h)) (kn _ (Knows.of_res 2 rfl (Sl.mono U8R _ _) fun _ h => row_u8 h)) (kn _ (Knows.of_res 3 rfl (Sl.mono U8R _ _) fun _ h => row_u8 h)) hok hri).mono ?_
        rintro e w' ⟨rfl, hw'⟩
        refine ⟨_, rfl, _, back _ _ hw', ?_⟩
        clear hw hw1 hw' back kn sb
        refine l_val (v := .tuple #[.agg #[.int .i64 (0), .int .i64 (0), .slice none 0 0, .slice none 0 0, .int .i64 (0)], .int .i64 (311)]) rfl rfl rfl (e_move) ?_
        refine l_val (v := .agg #[.int .i64 (0), .int .i64 (0), .slice none 0 0, .slice none 0 0, .int .i64 (0)]) rfl rfl rfl (e_extract (vs := #[.agg #[.int .i64 (0), .int .i64 (0), .slice none 0 0, .slice none 0 0, .int .i64 (0)], .int .i64 (311)]) rfl rfl) ?_
        refine l_val (v := .int .i64 (311)) rfl rfl rfl (e_extract (vs := #[.agg #[.int .i64 (0), .int .i64 (0), .slice none 0 0, .slice none 0 0, .int .i64 (0)], .int .i64 (311)]) rfl rfl) ?_
        refine l_mv rfl rfl rfl (m_alloc tf55) ?_
        rintro _ _ ⟨b55, rfl, rfl⟩
        refine l_mu rfl rfl (m_store 0 tf59 (b := b55) (o := 0) (T := 36) (cs := #[.int .i64 (0), .int .i64 (0), .slice none 0 0, .slice none 0 0, .int .i64 (0)]) (cs' := #[.int .i64 (0), .int .i64 (0), .slice none 0 0, .slice none 0 0, .int .i64 (0)]) (v := .agg #[.int .i64 (0), .int .i64 (0), .slice none 0 0, .slice none 0 0, .int .i64 (0)]) rfl rfl rfl rfl rfl rfl rfl) ?_
        refine l_val (v := .int .i64 (311)) rfl rfl rfl (e_assign) ?_
        refine l_nil ?_
        refine f_then ?_
        refine c_seq ?_
        refine c_region ?_
        refine l_val (v := .int .i64 (0)) rfl rfl rfl (e_assign) ?_
        refine l_nil ?_
        refine f_then ?_
        refine c_seq ?_
        refine c_seq ?_
        refine c_region ?_
        refine l_val (v := .pointer (some ⟨b7, 0, none⟩)) rfl rfl rfl (e_fieldPt (b := b7) (o := 0) rfl tf89) ?_
        refine l_val (v := Nx (C4.epoch)) rfl rfl rfl (e_load1 tf25 (v := Nx (C4.epoch)) rfl (k_pt 5 (cs := #[Nx (C4.epoch), Nx (C4.next), .string (C4.state), .slice p5 (C4.recs).length c6]) (vs := [Nx (C4.epoch)]) rfl rfl)) ?_
        refine l_val (v := .bool (decide ((0 : Int) < ((C4.epoch : Nat) : Int)))) rfl rfl rfl (e_gtr (a := ((C4.epoch : Nat) : Int)) (b := (0 : Int)) rfl rfl) ?_
        refine l_nil ?_
        refine f_then ?_
        refine c_if ((0 : Int) < ((C4.epoch : Nat) : Int)) rfl (fun hc56 => ?_) (fun hc56 => ?_)
        ·
          have hbs : baseOf I3 = 24 + I3.state.length := if_neg (by omega)
          refine c_seq ?_
          refine c_region ?_
          refine l_val (v := .pointer (some ⟨b7, 2, none⟩)) rfl rfl rfl (e_fieldPt (b := b7) (o := 0) rfl tf93) ?_
          refine l_val (v := .string (C4.state)) rfl rfl rfl (e_load1 tf6 (v := .string (C4.state)) rfl (k_pt 5 (cs := #[Nx (C4.epoch), Nx (C4.next), .string (C4.state), .slice p5 (C4.recs).length c6]) (vs := [.string (C4.state)]) rfl rfl)) ?_
          refine l_val (v := Nx ((C4.state).size)) rfl rfl rfl (e_len_s (s := C4.state) rfl tf7) ?_
          refine l_val (v := Nx (24 + ((C4.state).size))) rfl rfl rfl (e_add (a := (24 : Int)) (b := (((C4.state).size : Nat) : Int)) rfl rfl (i64n (by omega) (by omega))) ?_
          refine l_val (v := Nx (24 + ((C4.state).size))) rfl rfl rfl (e_assign) ?_
          refine l_nil ?_
          refine f_then ?_
          refine c_seq ?_
          refine c_region ?_
          refine l_val (v := Nx (at_ % ((K2.a).length))) rfl rfl rfl (e_move) ?_
          refine l_val (v := Nx (24 + ((C4.state).size))) rfl rfl rfl (e_move) ?_
          refine l_val (v := .bool (decide (((at_ % ((K2.a).length) : Nat) : Int) < ((24 + ((C4.state).size) : Nat) : Int)))) rfl rfl rfl (e_lss (a := ((at_ % ((K2.a).length) : Nat) : Int)) (b := ((24 + ((C4.state).size) : Nat) : Int)) rfl rfl) ?_
          refine l_nil ?_
          refine f_then ?_
          refine c_if (((at_ % ((K2.a).length) : Nat) : Int) < ((24 + ((C4.state).size) : Nat) : Int)) rfl (fun hc57 => ?_) (fun hc57 => ?_)
          ·
            refine c_seq ?_
            refine c_region ?_
            refine l_val (v := .int .i64 (311)) rfl rfl rfl (e_move) ?_
            refine l_val (v := .bool true) rfl rfl rfl (e_eql (a := (311 : Int)) (b := (311 : Int)) rfl rfl) ?_
            refine l_val (v := .bool true) rfl rfl rfl (e_move) ?_
            refine g_val (v := .pointer (some ⟨b55, 0, none⟩)) rfl rfl rfl rfl rfl (e_fieldPt (b := b55) (o := 0) rfl tf48) ?_
            refine g_val (v := .int .i64 (0)) rfl rfl rfl rfl rfl (e_load1 tf25 (v := .int .i64 (0)) rfl (k_pt 0 (cs := #[.int .i64 (0), .int .i64 (0), .slice none 0 0, .slice none 0 0, .int .i64 (0)]) (vs := [.int .i64 (0)]) rfl rfl)) ?_
            refine g_val (v := .bool true) rfl rfl rfl rfl rfl (e_eql (a := (0 : Int)) (b := (0 : Int)) rfl rfl) ?_
            refine l_val (v := .bool true) rfl rfl rfl (e_pick_t rfl) ?_
            refine l_val (v := .bool true) rfl rfl rfl (e_move) ?_
            refine g_val (v := .pointer (some ⟨b55, 3, none⟩)) rfl rfl rfl rfl rfl (e_fieldPt (b := b55) (o := 0) rfl tf64) ?_
            refine g_val (v := .slice none 0 0) rfl rfl rfl rfl rfl (e_load1 tf65 (v := .slice none 0 0) rfl (k_pt 0 (cs := #[.int .i64 (0), .int .i64 (0), .slice none 0 0, .slice none 0 0, .int .i64 (0)]) (vs := [.slice none 0 0]) rfl rfl)) ?_
            refine g_val (v := .int .i64 (0)) rfl rfl rfl rfl rfl (e_len (n := 0) rfl tf77) ?_
            refine g_val (v := .bool true) rfl rfl rfl rfl rfl (e_eql (a := (0 : Int)) (b := (0 : Int)) rfl rfl) ?_
            refine l_val (v := .bool true) rfl rfl rfl (e_pick_t rfl) ?_
            refine l_val (v := .bool true) rfl rfl rfl (e_move) ?_
            refine g_call rfl rfl rfl rfl rfl (cl_value (fst := []) (cap := []) (vs := []) (all := []) tf111 rfl rfl rfl) ?_
            intro w hw
            obtain ⟨β1, sb, kn, hw1, back⟩ := St.frame_all hw
            refine (awake_ok β1 w hw1).mono ?_
            rintro e w' ⟨rfl, hw'⟩
            refine ⟨_, rfl, _, back _ _ hw', ?_⟩
            clear hw hw1 hw' back kn sb
            refine l_val (v := .bool true) rfl rfl rfl (e_pick_t rfl) ?_
            refine l_val (v := .bool true) rfl rfl rfl (e_assign) ?_
            refine l_nil ?_
            refine f_then ?_
            refine c_ret ?_
            refine f_then_ret ?_
            refine ret1 Try.results3 (v := .bool true) rfl ?_
            intro w hw
            exact ⟨rfl, st_mask [false, false, false, false, false, false, false] rfl hw⟩
          ·
            exact absurd (by omega) hc57
        ·
          exact absurd (by omega) hc56
      ·
        obtain ⟨ti, hti⟩ : ∃ z, z = (⟨I3.epoch, I3.next - I3.recs.length + tw, I3.state, I3.recs.take tw, baseOf I3 + sizes (I3.recs.take tw)⟩ : KI) := ⟨_, rfl⟩
        rw [← hti] at hri
        have hte : ti.epoch = I3.epoch := by rw [hti]
        have htn : ti.next = I3.next - I3.recs.length + tw := by rw [hti]
        have htst : ti.state = I3.state := by rw [hti]
        have htr : ti.recs = I3.recs.take tw := by rw [hti]
        have hts : ti.size = baseOf I3 + sizes (I3.recs.take tw) := by rw [hti]
        have htw := (List.getElem?_eq_some_iff.1 ht1).1
        have htrl : ti.recs.length = tw := by rw [htr]; simp; omega
        have htsl : ti.state.length = I3.state.length := by rw [htst]
        refine c_region ?_
        refine l_val (v := .pointer (some ⟨S1, 0, none⟩)) rfl rfl rfl (e_move) ?_
        refine l_val (v := .pointer (some ⟨S1, 0, none⟩)) rfl rfl rfl (e_nil (a := ⟨S1, 0, none⟩) rfl) ?_
        refine l_val (v := .agg #[.slice pH8 (K2.head).length cH11, .slice pA9 ((K2.a.set (at_ % ((K2.a).length)) (c53 ^^^ (max by_ (1 : UInt8))))).length cA12, .slice pB10 (K2.b).length cB13, Ix (K2.power)]) rfl rfl rfl (e_load tf56 (cs := [.slice pH8 (K2.head).length cH11, .slice pA9 ((K2.a.set (at_ % ((K2.a).length)) (c53 ^^^ (max by_ (1 : UInt8))))).length cA12, .slice pB10 (K2.b).length cB13, Ix (K2.power)]) rfl (k_pt 0 (cs := #[.slice pH8 (K2.head).length cH11, .slice pA9 ((K2.a.set (at_ % ((K2.a).length)) (c53 ^^^ (max by_ (1 : UInt8))))).length cA12, .slice pB10 (K2.b).length cB13, Ix (K2.power)]) (vs := [.slice pH8 (K2.head).length cH11, .slice pA9 ((K2.a.set (at_ % ((K2.a).length)) (c53 ^^^ (max by_ (1 : UInt8))))).length cA12, .slice pB10 (K2.b).length cB13, Ix (K2.power)]) rfl rfl) rfl) ?_
        refine l_call rfl rfl rfl (cl_value (fst := []) (cap := []) (vs := [.agg #[.slice pH8 (K2.head).length cH11, .slice pA9 ((K2.a.set (at_ % ((K2.a).length)) (c53 ^^^ (max by_ (1 : UInt8))))).length cA12, .slice pB10 (K2.b).length cB13, Ix (K2.power)]]) (all := [.agg #[.slice pH8 (K2.head).length cH11, .slice pA9 ((K2.a.set (at_ % ((K2.a).length)) (c53 ^^^ (max by_ (1 : UInt8))))).length cA12, .slice pB10 (K2.b).length cB13, Ix (K2.power)]]) tf69 rfl rfl rfl) ?_
        intro w hw
        obtain ⟨β1, sb, kn, hw1, back⟩ := St.frame_all hw
        refine (readC_ok β1 w hw1 ({ K2 with a := K2.a.set (at_ % ((K2.a).length)) (c53 ^^^ (max by_ (1 : UInt8))) } : KS) _ _ _ (kn _ (Knows.of_res 1 rfl (Sl.mono U8R _ _) fun _ h => row_u8 h)) (kn _ (Knows.of_res 2 rfl (Sl.mono U8R _ _) fun _ h => row_u8 h)) (kn _ (Knows.of_res 3 rfl (Sl.mono U8R _ _) fun _ h => row_u8 h)) hok ti hri).mono ?_
        rintro e w' ⟨ps58, pr59, cs60, cr61, rfl, hw'⟩
        refine ⟨_, rfl, _, back _ _ hw', ?_⟩
        clear hw hw1 hw' back kn sb
        refine l_val (v := .tuple #[.agg #[Nx (ti.epoch), Nx (ti.next), .slice ps58 (ti.state).length cs60, .slice pr59 (ti.recs).length cr61, Nx (ti.size)], .int .i64 (0)]) rfl rfl rfl (e_move) ?_
        refine l_val (v := .agg #[Nx (ti.epoch), Nx (ti.next), .slice ps58 (ti.state).length cs60, .slice pr59 (ti.recs).length cr61, Nx (ti.size)]) rfl rfl rfl (e_extract (vs := #[.agg #[Nx (ti.epoch), Nx (ti.next), .slice ps58 (ti.state).length cs60, .slice pr59 (ti.recs).length cr61, Nx (ti.size)], .int .i64 (0)]) rfl rfl) ?_
        refine l_val (v := .int .i64 (0)) rfl rfl rfl (e_extract (vs := #[.agg #[Nx (ti.epoch), Nx (ti.next), .slice ps58 (ti.state).length cs60, .slice pr59 (ti.recs).length cr61, Nx (ti.size)], .int .i64 (0)]) rfl rfl) ?_
        refine l_mv rfl rfl rfl (m_alloc tf55) ?_
        rintro _ _ ⟨b62, rfl, rfl⟩
        refine l_mu rfl rfl (m_store 0 tf59 (b := b62) (o := 0) (T := 36) (cs := #[.int .i64 (0), .int .i64 (0), .slice none 0 0, .slice none 0 0, .int .i64 (0)]) (cs' := #[Nx (ti.epoch), Nx (ti.next), .slice ps58 (ti.state).length cs60, .slice pr59 (ti.recs).length cr61, Nx (ti.size)]) (v := .agg #[Nx (ti.epoch), Nx (ti.next), .slice ps58 (ti.state).length cs60, .slice pr59 (ti.recs).length cr61, Nx (ti.size)]) rfl rfl rfl rfl rfl rfl rfl) ?_
        refine l_val (v := .int .i64 (0)) rfl rfl rfl (e_assign) ?_
        refine l_nil ?_
        refine f_then ?_
        refine c_seq ?_
        refine c_region ?_
        refine l_val (v := .int .i64 (0)) rfl rfl rfl (e_assign) ?_
        refine l_nil ?_
        refine f_then ?_
        refine c_seq ?_
        refine c_seq ?_
        refine c_region ?_
        refine l_val (v := .pointer (some ⟨b7, 0, none⟩)) rfl rfl rfl (e_fieldPt (b := b7) (o := 0) rfl tf89) ?_
        refine l_val (v := Nx (C4.epoch)) rfl rfl rfl (e_load1 tf25 (v := Nx (C4.epoch)) rfl (k_pt 7 (cs := #[Nx (C4.epoch), Nx (C4.next), .string (C4.state), .slice p5 (C4.recs).length c6]) (vs := [Nx (C4.epoch)]) rfl rfl)) ?_
        refine l_val (v := .bool (decide ((0 : Int) < ((C4.epoch : Nat) : Int)))) rfl rfl rfl (e_gtr (a := ((C4.epoch : Nat) : Int)) (b := (0 : Int)) rfl rfl) ?_
        refine l_nil ?_
        refine f_then ?_
        refine c_if ((0 : Int) < ((C4.epoch : Nat) : Int)) rfl (fun hc63 => ?_) (fun hc63 => ?_)
        ·
          have hbs : baseOf I3 = 24 + I3.state.length := if_neg (by omega)
          refine c_seq ?_
          refine c_region ?_
          refine l_val (v := .pointer (some ⟨b7, 2, none⟩)) rfl rfl rfl (e_fieldPt (b := b7) (o := 0) rfl tf93) ?_
          refine l_val (v := .string (C4.state)) rfl rfl rfl (e_load1 tf6 (v := .string (C4.state)) rfl (k_pt 7 (cs := #[Nx (C4.epoch), Nx (C4.next), .string (C4.state), .slice p5 (C4.recs).length c6]) (vs := [.string (C4.state)]) rfl rfl)) ?_
          refine l_val (v := Nx ((C4.state).size)) rfl rfl rfl (e_len_s (s := C4.state) rfl tf7) ?_
          refine l_val (v := Nx (24 + ((C4.state).size))) rfl rfl rfl (e_add (a := (24 : Int)) (b := (((C4.state).size : Nat) : Int)) rfl rfl (i64n (by omega) (by omega))) ?_
          refine l_val (v := Nx (24 + ((C4.state).size))) rfl rfl rfl (e_assign) ?_
          refine l_nil ?_
          refine f_then ?_
          refine c_seq ?_
          refine c_region ?_
          refine l_val (v := Nx (at_ % ((K2.a).length))) rfl rfl rfl (e_move) ?_
          refine l_val (v := Nx (24 + ((C4.state).size))) rfl rfl rfl (e_move) ?_
          refine l_val (v := .bool (decide (((at_ % ((K2.a).length) : Nat) : Int) < ((24 + ((C4.state).size) : Nat) : Int)))) rfl rfl rfl (e_lss (a := ((at_ % ((K2.a).length) : Nat) : Int)) (b := ((24 + ((C4.state).size) : Nat) : Int)) rfl rfl) ?_
          refine l_nil ?_
          refine f_then ?_
          refine c_if (((at_ % ((K2.a).length) : Nat) : Int) < ((24 + ((C4.state).size) : Nat) : Int)) rfl (fun hc64 => ?_) (fun hc64 => ?_)
          ·
            exact absurd hc64 (by omega)
          ·
            refine c_skip ?_
            refine f_then ?_
            refine c_seq ?_
            refine c_rowcap 8 rfl (fun hcl hcm => ?_)
            refine c_region ?_
            refine l_val (v := .int .i64 (0)) rfl rfl rfl (e_assign) ?_
            refine l_nil ?_
            refine f_then ?_
            refine c_seq ?_
            refine c_block ?_
            refine c_loop (fun (wz : Nat) (f : Fm) (L : List Res) => (f 8 = .pointer (some ⟨b7, 0, none⟩) ∧ f 11 = Nx (at_ % ((K2.a).length)) ∧ f 12 = .pointer (some ⟨b62, 0, none⟩) ∧ f 13 = .int .i64 (0) ∧ f 14 = Nx (24 + ((C4.state).size) + sizes (I3.recs.take wz)) ∧ f 15 = Nx (wz)) ∧ L = [pt b62 (.cells #[Nx (ti.epoch), Nx (ti.next), .slice ps58 (ti.state).length cs60, .slice pr59 (ti.recs).length cr61, Nx (ti.size)] 36), row (.slice ps58 (ti.state).length cs60) 5 1 ((ti.state).length) (BX ti.state), recsR 30 pr59 cr61 ti.recs, pt S1 (.cells #[.slice pH8 (K2.head).length cH11, .slice pA9 ((K2.a.set (at_ % ((K2.a).length)) (c53 ^^^ (max by_ (1 : UInt8))))).length cA12, .slice pB10 (K2.b).length cB13, Ix (K2.power)] 32), row (.slice pH8 (K2.head).length cH11) 5 1 ((K2.head).length) (BX K2.head), row (.slice pA9 ((K2.a.set (at_ % ((K2.a).length)) (c53 ^^^ (max by_ (1 : UInt8))))).length cA12) 5 1 (((K2.a.set (at_ % ((K2.a).length)) (c53 ^^^ (max by_ (1 : UInt8))))).length) (BX (K2.a.set (at_ % ((K2.a).length)) (c53 ^^^ (max by_ (1 : UInt8))))), row (.slice pB10 (K2.b).length cB13) 5 1 ((K2.b).length) (BX K2.b), pt b7 (.cells #[Nx (C4.epoch), Nx (C4.next), .string (C4.state), .slice p5 (C4.recs).length c6] 27), row (.slice p5 (C4.recs).length c6) 9 1 ((C4.recs).length) (C4.recs.map (fun s : ByteArray => Value.string s))] ∧ (wz ≤ I3.recs.length ∧ 24 + ((C4.state).size) + sizes (I3.recs.take wz) ≤ (at_ % ((K2.a).length)))) (fun (wz : Nat) => I3.recs.length - wz) 0 ?_ ?_
            · exact ⟨⟨rfl, rfl, rfl, rfl, rfl, rfl⟩, rfl, ⟨by omega, by simp [sizes]; try omega⟩⟩
            rintro wz f0 L0 ⟨⟨hs8, hs11, hs12, hs13, hs14, hs15⟩, hL, ⟨hw1_, hw2_⟩⟩
            subst L0
            refine rebase (d := 8) hs8 ?_
            refine rebase (d := 11) hs11 ?_
            refine rebase (d := 12) hs12 ?_
            refine rebase (d := 13) hs13 ?_
            refine rebase (d := 14) hs14 ?_
            refine rebase (d := 15) hs15 ?_
            clear hs8 hs11 hs12 hs13 hs14 hs15
            have hsb := sizes_take_le (l := I3.recs) (w := wz)
            have hszr : baseOf I3 + sizes I3.recs ≤ 324 * 9 := by have := encI_len I3; have := hI.wf.size; have := hI.sz; omega
            refine c_seq ?_
            refine c_seq ?_
            refine c_region ?_
            refine l_val (v := Nx (wz)) rfl rfl rfl (e_move) ?_
            refine l_val (v := .pointer (some ⟨b7, 3, none⟩)) rfl rfl rfl (e_fieldPt (b := b7) (o := 0) rfl tf96) ?_
            refine l_val (v := .slice p5 (C4.recs).length c6) rfl rfl rfl (e_load1 tf97 (v := .slice p5 (C4.recs).length c6) rfl (k_pt 7 (cs := #[Nx (C4.epoch), Nx (C4.next), .string (C4.state), .slice p5 (C4.recs).length c6]) (vs := [.slice p5 (C4.recs).length c6]) rfl rfl)) ?_
            refine l_val (v := Nx ((C4.recs).length)) rfl rfl rfl (e_len (a := p5) (n := (C4.recs).length) (c := c6) rfl tf81) ?_
            refine l_val (v := .bool (decide (((wz : Nat) : Int) < (((C4.recs).length : Nat) : Int)))) rfl rfl rfl (e_lss (a := ((wz : Nat) : Int)) (b := (((C4.recs).length : Nat) : Int)) rfl rfl) ?_
            refine l_val (v := .bool (decide (((wz : Nat) : Int) < (((C4.recs).length : Nat) : Int)))) rfl rfl rfl (e_move) ?_
            refine l_split (s := 91) (p := ((wz : Nat) : Int) < (((C4.recs).length : Nat) : Int)) rfl (fun hg65 => ?_) (fun hg65 => ?_)
            ·
              refine g_val (v := Nx (at_ % ((K2.a).length))) rfl rfl rfl rfl rfl (e_move) ?_
              refine g_val (v := Nx (24 + ((C4.state).size) + sizes (I3.recs.take wz))) rfl rfl rfl rfl rfl (e_move) ?_
              refine g_val (v := Nx ((24 + ((C4.state).size) + sizes (I3.recs.take wz)) + 24)) rfl rfl rfl rfl rfl (e_add (a := ((24 + ((C4.state).size) + sizes (I3.recs.take wz) : Nat) : Int)) (b := (24 : Int)) rfl rfl (i64n (by omega) (by omega))) ?_
              refine g_val (v := .pointer (some ⟨b7, 3, none⟩)) rfl rfl rfl rfl rfl (e_fieldPt (b := b7) (o := 0) rfl tf96) ?_
              refine g_val (v := .slice p5 (C4.recs).length c6) rfl rfl rfl rfl rfl (e_load1 tf97 (v := .slice p5 (C4.recs).length c6) rfl (k_pt 7 (cs := #[Nx (C4.epoch), Nx (C4.next), .string (C4.state), .slice p5 (C4.recs).length c6]) (vs := [.slice p5 (C4.recs).length c6]) rfl rfl)) ?_
              refine g_val (v := Nx (wz)) rfl rfl rfl rfl rfl (e_move) ?_
              refine g_val (v := .pointer (some ((ba p5).add (wz * 1)))) rfl rfl rfl rfl rfl (e_indexRow 8 (j := wz) (len := (C4.recs).length) (cap := c6) (p := p5) rfl rfl tf78 (by omega) (by omega) rfl) ?_
              obtain ⟨c66, hc67⟩ : ∃ c, C4.recs[wz]? = some c := ⟨_, List.getElem?_eq_getElem (by omega)⟩
              obtain ⟨rw, hrw1, hrw2⟩ := recs_at hC hc67
              have hss := sizes_take_succ hrw1
              have hrw3 := (List.getElem?_eq_some_iff.1 hrw1).1
              have hsb2 := sizes_take_le (l := I3.recs) (w := wz + 1)
              refine g_val (v := .string (c66)) rfl rfl rfl rfl rfl (e_load1 tf6 (v := .string (c66)) rfl (k_row 8 (o := wz * 1) (us := [.string (c66)]) rfl (map_at (enc := fun s : ByteArray => Value.string s) hc67) (Nat.succ_pos _))) ?_
              refine g_val (v := Nx ((c66).size)) rfl rfl rfl rfl rfl (e_len_s (s := c66) rfl tf7) ?_
              refine g_val (v := Nx (((24 + ((C4.state).size) + sizes (I3.recs.take wz)) + 24) + ((c66).size))) rfl rfl rfl rfl rfl (e_add (a := (((24 + ((C4.state).size) + sizes (I3.recs.take wz)) + 24 : Nat) : Int)) (b := (((c66).size : Nat) : Int)) rfl rfl (i64n (by omega) (by omega))) ?_
              refine g_val (v := .bool (decide (((((24 + ((C4.state).size) + sizes (I3.recs.take wz)) + 24) + ((c66).size) : Nat) : Int) ≤ ((at_ % ((K2.a).length) : Nat) : Int)))) rfl rfl rfl rfl rfl (e_geq (a := ((at_ % ((K2.a).length) : Nat) : Int)) (b := ((((24 + ((C4.state).size) + sizes (I3.recs.take wz)) + 24) + ((c66).size) : Nat) : Int)) rfl rfl) ?_
              refine l_val (v := .bool (decide (((((24 + ((C4.state).size) + sizes (I3.recs.take wz)) + 24) + ((c66).size) : Nat) : Int) ≤ ((at_ % ((K2.a).length) : Nat) : Int)))) rfl rfl rfl (e_pick_t rfl) ?_
              refine l_nil ?_
              refine f_then ?_
              refine c_if (((((24 + ((C4.state).size) + sizes (I3.recs.take wz)) + 24) + ((c66).size) : Nat) : Int) ≤ ((at_ % ((K2.a).length) : Nat) : Int)) rfl (fun hc68 => ?_) (fun hc68 => ?_)
              ·
                refine c_skip ?_
                refine f_then ?_
                refine c_block ?_
                refine c_seq ?_
                refine c_region ?_
                refine l_val (v := Nx (24 + ((C4.state).size) + sizes (I3.recs.take wz))) rfl rfl rfl (e_move) ?_
                refine l_val (v := .pointer (some ⟨b7, 3, none⟩)) rfl rfl rfl (e_fieldPt (b := b7) (o := 0) rfl tf96) ?_
                refine l_val (v := .slice p5 (C4.recs).length c6) rfl rfl rfl (e_load1 tf97 (v := .slice p5 (C4.recs).length c6) rfl (k_pt 7 (cs := #[Nx (C4.epoch), Nx (C4.next), .string (C4.state), .slice p5 (C4.recs).length c6]) (vs := [.slice p5 (C4.recs).length c6]) rfl rfl)) ?_
                refine l_val (v := Nx (wz)) rfl rfl rfl (e_move) ?_
                refine l_val (v := .pointer (some ((ba p5).add (wz * 1)))) rfl rfl rfl (e_indexRow 8 (j := wz) (len := (C4.recs).length) (cap := c6) (p := p5) rfl rfl tf78 (by omega) (by omega) rfl) ?_
                refine l_val (v := .string (c66)) rfl rfl rfl (e_load1 tf6 (v := .string (c66)) rfl (k_row 8 (o := wz * 1) (us := [.string (c66)]) rfl (map_at (enc := fun s : ByteArray => Value.string s) hc67) (Nat.succ_pos _))) ?_
                refine l_val (v := Nx ((c66).size)) rfl rfl rfl (e_len_s (s := c66) rfl tf7) ?_
                refine l_val (v := Nx (24 + ((c66).size))) rfl rfl rfl (e_add (a := (24 : Int)) (b := (((c66).size : Nat) : Int)) rfl rfl (i64n (by omega) (by omega))) ?_
                refine l_val (v := Nx ((24 + ((C4.state).size) + sizes (I3.recs.take wz)) + (24 + ((c66).size)))) rfl rfl rfl (e_add (a := ((24 + ((C4.state).size) + sizes (I3.recs.take wz) : Nat) : Int)) (b := ((24 + ((c66).size) : Nat) : Int)) rfl rfl (i64n (by omega) (by omega))) ?_
                refine l_val (v := Nx ((24 + ((C4.state).size) + sizes (I3.recs.take wz)) + (24 + ((c66).size)))) rfl rfl rfl (e_assign) ?_
                refine l_nil ?_
                refine f_then ?_
                refine c_region ?_
                refine l_val (v := Nx (wz)) rfl rfl rfl (e_move) ?_
                refine l_val (v := Nx (wz + 1)) rfl rfl rfl (e_add (a := ((wz : Nat) : Int)) (b := (1 : Int)) rfl rfl (i64n (by omega) (by omega))) ?_
                refine l_val (v := Nx (wz + 1)) rfl rfl rfl (e_assign) ?_
                refine l_nil ?_
                refine f_block ?_
                exact f_cut ⟨wz + 1, ⟨⟨rfl, rfl, rfl, rfl, (congrArg (fun z : Nat => Nx z) (by omega)), rfl⟩, rfl, ⟨by omega, by omega⟩⟩, (show I3.recs.length - (wz + 1) < I3.recs.length - wz from by omega)⟩
              ·
                refine c_exit ?_
                refine f_then_exit ?_
                refine f_then_exit ?_
                refine f_exit ?_
                refine f_then ?_
                refine c_seq ?_
                have hwt : wz = tw := find_uniq (k := (at_ % ((K2.a).length)) - baseOf I3) hrw1 ht1 (by omega) (by omega) (by omega) (by omega)
                subst hwt
                refine c_any [⟨[], [], [0], [115], fun f => f 115 = .int .i64 (0)⟩, ⟨[0], [0], [], [116], fun f => f 116 = .bool true⟩, ⟨[0, 1], [1], [], [117], fun f => f 117 = .bool true⟩, ⟨[0, 1, 2], [2], [1], [118], fun f => f 118 = .pointer (some ⟨b62, 0, none⟩)⟩, ⟨[0, 1, 2, 3], [3, 2], [], [119], fun f => f 119 = Nx (ti.epoch)⟩, ⟨[0, 1, 2], [2], [2], [120], fun f => f 120 = .pointer (some ⟨b7, 0, none⟩)⟩, ⟨[0, 1, 2, 5], [5, 2], [], [121], fun f => f 121 = Nx (C4.epoch)⟩, ⟨[0, 1, 2, 3, 4, 5, 6], [4, 6, 2], [], [122], fun f => f 122 = .bool true⟩, ⟨[0, 1, 2, 3, 4, 5, 6, 7], [2, 7], [], [123], fun f => f 123 = .bool true⟩, ⟨[0, 1, 2, 3, 4, 5, 6, 7, 8], [8], [], [124], fun f => f 124 = .bool true⟩, ⟨[0, 1, 2, 3, 4, 5, 6, 7, 8, 9], [9], [1], [125], fun f => f 125 = .pointer (some ⟨b62, 4, none⟩)⟩, ⟨[0, 1, 2, 3, 4, 5, 6, 7, 8, 9, 10], [10, 9], [], [126], fun f => f 126 = Nx (ti.size)⟩, ⟨[0, 1, 2, 3, 4, 5, 6, 7, 8, 9], [9], [3], [127], fun f => f 127 = Nx (24 + ((C4.state).size) + sizes (I3.recs.take wz))⟩, ⟨[0, 1, 2, 3, 4, 5, 6, 7, 8, 9, 10, 11, 12], [11, 12, 9], [], [128], fun f => f 128 = .bool true⟩, ⟨[0, 1, 2, 3, 4, 5, 6, 7, 8, 9, 10, 11, 12, 13], [9, 13], [], [129], fun f => f 129 = .bool true⟩, ⟨[0, 1, 2, 3, 4, 5, 6, 7, 8, 9, 10, 11, 12, 13, 14], [14], [], [130], fun f => f 130 = .bool true⟩, ⟨[0, 1, 2, 3, 4, 5, 6, 7, 8, 9, 10, 11, 12, 13, 14, 15], [15], [1], [131], fun f => f 131 = .pointer (some ⟨b62, 2, none⟩)⟩, ⟨[0, 1, 2, 3, 4, 5, 6, 7, 8, 9, 10, 11, 12, 13, 14, 15, 16], [16, 15], [], [132], fun f => f 132 = .slice ps58 (ti.state).length cs60⟩, ⟨[0, 1, 2, 3, 4, 5, 6, 7, 8, 9, 10, 11, 12, 13, 14, 15, 16, 17], [17, 15], [], [133], fun f => f 133 = .string (str ti.state)⟩, ⟨[0, 1, 2, 3, 4, 5, 6, 7, 8, 9, 10, 11, 12, 13, 14, 15], [15], [2], [134], fun f => f 134 = .pointer (some ⟨b7, 2, none⟩)⟩, ⟨[0, 1, 2, 3, 4, 5, 6, 7, 8, 9, 10, 11, 12, 13, 14, 15, 19], [19, 15], [], [135], fun f => f 135 = .string (C4.state)⟩, ⟨[0, 1, 2, 3, 4, 5, 6, 7, 8, 9, 10, 11, 12, 13, 14, 15, 16, 17, 18, 19, 20], [18, 20, 15], [], [136], fun f => f 136 = .bool true⟩, ⟨[0, 1, 2, 3, 4, 5, 6, 7, 8, 9, 10, 11, 12, 13, 14, 15, 16, 17, 18, 19, 20, 21], [15, 21], [], [137], fun f => f 137 = .bool true⟩, ⟨[0, 1, 2, 3, 4, 5, 6, 7, 8, 9, 10, 11, 12, 13, 14, 15, 16, 17, 18, 19, 20, 21, 22], [22], [], [138], fun f => f 138 = .bool true⟩, ⟨[0, 1, 2, 3, 4, 5, 6, 7, 8, 9, 10, 11, 12, 13, 14, 15, 16, 17, 18, 19, 20, 21, 22, 23], [23], [1], [139], fun f => f 139 = .pointer (some ⟨b62, 3, none⟩)⟩, ⟨[0, 1, 2, 3, 4, 5, 6, 7, 8, 9, 10, 11, 12, 13, 14, 15, 16, 17, 18, 19, 20, 21, 22, 23, 24], [24, 23], [], [140], fun f => f 140 = .slice pr59 (ti.recs).length cr61⟩, ⟨[0, 1, 2, 3, 4, 5, 6, 7, 8, 9, 10, 11, 12, 13, 14, 15, 16, 17, 18, 19, 20, 21, 22, 23, 24, 25], [25, 23], [], [141], fun f => f 141 = .slice (sla (f 141)) (ti.recs.map str).length (slc (f 141))⟩, ⟨[0, 1, 2, 3, 4, 5, 6, 7, 8, 9, 10, 11, 12, 13, 14, 15, 16, 17, 18, 19, 20, 21, 22, 23], [23], [2], [142], fun f => f 142 = .pointer (some ⟨b7, 3, none⟩)⟩, ⟨[0, 1, 2, 3, 4, 5, 6, 7, 8, 9, 10, 11, 12, 13, 14, 15, 16, 17, 18, 19, 20, 21, 22, 23, 27], [27, 23], [], [143], fun f => f 143 = .slice p5 (C4.recs).length c6⟩, ⟨[0, 1, 2, 3, 4, 5, 6, 7, 8, 9, 10, 11, 12, 13, 14, 15, 16, 17, 18, 19, 20, 21, 22, 23], [23], [4], [144], fun f => f 144 = Nx (wz)⟩, ⟨[0, 1, 2, 3, 4, 5, 6, 7, 8, 9, 10, 11, 12, 13, 14, 15, 16, 17, 18, 19, 20, 21, 22, 23, 27, 28, 29], [28, 29, 23], [], [145], fun f => f 145 = .slice p5 (wz) c6⟩, ⟨[0, 1, 2, 3, 4, 5, 6, 7, 8, 9, 10, 11, 12, 13, 14, 15, 16, 17, 18, 19, 20, 21, 22, 23, 24, 25, 26, 27, 28, 29, 30], [26, 30, 23], [], [146], fun f => f 146 = .bool true⟩, ⟨[0, 1, 2, 3, 4, 5, 6, 7, 8, 9, 10, 11, 12, 13, 14, 15, 16, 17, 18, 19, 20, 21, 22, 23, 24, 25, 26, 27, 28, 29, 30, 31], [23, 31], [], [147], fun f => f 147 = .bool true⟩, ⟨[0, 1, 2, 3, 4, 5, 6, 7, 8, 9, 10, 11, 12, 13, 14, 15, 16, 17, 18, 19, 20, 21, 22, 23, 24, 25, 26, 27, 28, 29, 30, 31, 32], [32], [], [148], fun f => f 148 = .bool true⟩, ⟨[0, 1, 2, 3, 4, 5, 6, 7, 8, 9, 10, 11, 12, 13, 14, 15, 16, 17, 18, 19, 20, 21, 22, 23, 24, 25, 26, 27, 28, 29, 30, 31, 32, 33], [33], [1], [149], fun f => f 149 = .pointer (some ⟨b62, 1, none⟩)⟩, ⟨[0, 1, 2, 3, 4, 5, 6, 7, 8, 9, 10, 11, 12, 13, 14, 15, 16, 17, 18, 19, 20, 21, 22, 23, 24, 25, 26, 27, 28, 29, 30, 31, 32, 33, 34], [34, 33], [], [150], fun f => f 150 = Nx (ti.next)⟩, ⟨[0, 1, 2, 3, 4, 5, 6, 7, 8, 9, 10, 11, 12, 13, 14, 15, 16, 17, 18, 19, 20, 21, 22, 23, 24, 25, 26, 27, 28, 29, 30, 31, 32, 33], [33], [2], [151], fun f => f 151 = .pointer (some ⟨b7, 1, none⟩)⟩, ⟨[0, 1, 2, 3, 4, 5, 6, 7, 8, 9, 10, 11, 12, 13, 14, 15, 16, 17, 18, 19, 20, 21, 22, 23, 24, 25, 26, 27, 28, 29, 30, 31, 32, 33, 36], [36, 33], [], [152], fun f => f 152 = Nx (C4.next)⟩, ⟨[0, 1, 2, 3, 4, 5, 6, 7, 8, 9, 10, 11, 12, 13, 14, 15, 16, 17, 18, 19, 20, 21, 22, 23, 24, 25, 26, 27, 28, 29, 30, 31, 32, 33], [33], [2], [153], fun f => f 153 = .pointer (some ⟨b7, 3, none⟩)⟩, ⟨[0, 1, 2, 3, 4, 5, 6, 7, 8, 9, 10, 11, 12, 13, 14, 15, 16, 17, 18, 19, 20, 21, 22, 23, 24, 25, 26, 27, 28, 29, 30, 31, 32, 33, 38], [38, 33], [], [154], fun f => f 154 = .slice p5 (C4.recs).length c6⟩, ⟨[0, 1, 2, 3, 4, 5, 6, 7, 8, 9, 10, 11, 12, 13, 14, 15, 16, 17, 18, 19, 20, 21, 22, 23, 24, 25, 26, 27, 28, 29, 30, 31, 32, 33, 38, 39], [39, 33], [], [155], fun f => f 155 = Nx ((C4.recs).length)⟩, ⟨[0, 1, 2, 3, 4, 5, 6, 7, 8, 9, 10, 11, 12, 13, 14, 15, 16, 17, 18, 19, 20, 21, 22, 23, 24, 25, 26, 27, 28, 29, 30, 31, 32, 33, 36, 37, 38, 39, 40], [37, 40, 33], [], [156], fun f => f 156 = Ix (((C4.next : Nat) : Int) - (((C4.recs).length : Nat) : Int))⟩, ⟨[0, 1, 2, 3, 4, 5, 6, 7, 8, 9, 10, 11, 12, 13, 14, 15, 16, 17, 18, 19, 20, 21, 22, 23, 24, 25, 26, 27, 28, 29, 30, 31, 32, 33], [33], [4], [157], fun f => f 157 = Nx (wz)⟩, ⟨[0, 1, 2, 3, 4, 5, 6, 7, 8, 9, 10, 11, 12, 13, 14, 15, 16, 17, 18, 19, 20, 21, 22, 23, 24, 25, 26, 27, 28, 29, 30, 31, 32, 33, 36, 37, 38, 39, 40, 41, 42], [41, 42, 33], [], [158], fun f => f 158 = Ix ((((C4.next : Nat) : Int) - (((C4.recs).length : Nat) : Int)) + ((wz : Nat) : Int))⟩, ⟨[0, 1, 2, 3, 4, 5, 6, 7, 8, 9, 10, 11, 12, 13, 14, 15, 16, 17, 18, 19, 20, 21, 22, 23, 24, 25, 26, 27, 28, 29, 30, 31, 32, 33, 34, 35, 36, 37, 38, 39, 40, 41, 42, 43], [35, 43, 33], [], [159], fun f => f 159 = .bool true⟩, ⟨[0, 1, 2, 3, 4, 5, 6, 7, 8, 9, 10, 11, 12, 13, 14, 15, 16, 17, 18, 19, 20, 21, 22, 23, 24, 25, 26, 27, 28, 29, 30, 31, 32, 33, 34, 35, 36, 37, 38, 39, 40, 41, 42, 43, 44], [33, 44], [], [160], fun f => f 160 = .bool true⟩, ⟨[0, 1, 2, 3, 4, 5, 6, 7, 8, 9, 10, 11, 12, 13, 14, 15, 16, 17, 18, 19, 20, 21, 22, 23, 24, 25, 26, 27, 28, 29, 30, 31, 32, 33, 34, 35, 36, 37, 38, 39, 40, 41, 42, 43, 44, 45], [45], [], [161], fun f => f 161 = .bool true⟩, ⟨[0, 1, 2, 3, 4, 5, 6, 7, 8, 9, 10, 11, 12, 13, 14, 15, 16, 17, 18, 19, 20, 21, 22, 23, 24, 25, 26, 27, 28, 29, 30, 31, 32, 33, 34, 35, 36, 37, 38, 39, 40, 41, 42, 43, 44, 45, 46], [46], [], [162], fun f => f 162 = .bool true⟩, ⟨[0, 1, 2, 3, 4, 5, 6, 7, 8, 9, 10, 11, 12, 13, 14, 15, 16, 17, 18, 19, 20, 21, 22, 23, 24, 25, 26, 27, 28, 29, 30, 31, 32, 33, 34, 35, 36, 37, 38, 39, 40, 41, 42, 43, 44, 45, 46, 47], [46, 47], [], [163], fun f => f 163 = .bool true⟩, ⟨[0, 1, 2, 3, 4, 5, 6, 7, 8, 9, 10, 11, 12, 13, 14, 15, 16, 17, 18, 19, 20, 21, 22, 23, 24, 25, 26, 27, 28, 29, 30, 31, 32, 33, 34, 35, 36, 37, 38, 39, 40, 41, 42, 43, 44, 45, 46, 47, 48], [48], [], [6], fun f => f 6 = .bool true⟩] [⟨none, none, [4, 11, 17, 25, 35], [], fun _ => pt b62 (.cells #[Nx (ti.epoch), Nx (ti.next), .slice ps58 (ti.state).length cs60, .slice pr59 (ti.recs).length cr61, Nx (ti.size)] 36)⟩, ⟨none, none, [18], [], fun _ => row (.slice ps58 (ti.state).length cs60) 5 1 ((ti.state).length) (BX ti.state)⟩, ⟨none, none, [26], [], fun _ => recsR 30 pr59 cr61 ti.recs⟩, ⟨none, none, [], [], fun _ => pt S1 (.cells #[.slice pH8 (K2.head).length cH11, .slice pA9 ((K2.a.set (at_ % ((K2.a).length)) (c53 ^^^ (max by_ (1 : UInt8))))).length cA12, .slice pB10 (K2.b).length cB13, Ix (K2.power)] 32)⟩, ⟨none, none, [], [], fun _ => row (.slice pH8 (K2.head).length cH11) 5 1 ((K2.head).length) (BX K2.head)⟩, ⟨none, none, [], [], fun _ => row (.slice pA9 ((K2.a.set (at_ % ((K2.a).length)) (c53 ^^^ (max by_ (1 : UInt8))))).length cA12) 5 1 (((K2.a.set (at_ % ((K2.a).length)) (c53 ^^^ (max by_ (1 : UInt8))))).length) (BX (K2.a.set (at_ % ((K2.a).length)) (c53 ^^^ (max by_ (1 : UInt8)))))⟩, ⟨none, none, [], [], fun _ => row (.slice pB10 (K2.b).length cB13) 5 1 ((K2.b).length) (BX K2.b)⟩, ⟨none, none, [6, 20, 28, 37, 39], [], fun _ => pt b7 (.cells #[Nx (C4.epoch), Nx (C4.next), .string (C4.state), .slice p5 (C4.recs).length c6] 27)⟩, ⟨none, none, [31], [], fun _ => row (.slice p5 (C4.recs).length c6) 9 1 ((C4.recs).length) (C4.recs.map (fun s : ByteArray => Value.string s))⟩, ⟨(some 26), none, [31], [141], fun f => row (.slice (sla (f 141)) (ti.recs.map str).length (slc (f 141))) 9 1 ((ti.recs.map str).length) ((ti.recs.map str).map (fun s : ByteArray => Value.string s))⟩] [(13, .int .i64 (0)), (12, .pointer (some ⟨b62, 0, none⟩)), (8, .pointer (some ⟨b7, 0, none⟩)), (14, Nx (24 + ((C4.state).size) + sizes (I3.recs.take wz))), (15, Nx (wz))] [] [] (by kernel_rfl) (by kernel_rfl) (by kernel_rfl) (by kernel_rfl) rfl ⟨rfl, rfl, rfl, rfl, rfl, trivial⟩ ⟨?_, ?_, ?_, ?_, ?_, ?_, ?_, ?_, ?_, ?_, ?_, ?_, ?_, ?_, ?_, ?_, ?_, ?_, ?_, ?_, ?_, ?_, ?_, ?_, ?_, ?_, ?_, ?_, ?_, ?_, ?_, ?_, ?_, ?_, ?_, ?_, ?_, ?_, ?_, ?_, ?_, ?_, ?_, ?_, ?_, ?_, ?_, ?_, ?_, ?_, trivial⟩ ?_
                · rintro f M - ⟨i0, -⟩
                  have hs13 : f 13 = .int .i64 (0) := i0
                  refine ob_start (L' := M) (by rfl) (up_cons rfl hs13) ?_
                  refine l_val (v := .int .i64 (0)) rfl rfl rfl (e_move) ?_
                  refine l_nil ?_
                  exact f_owes_d (up_cons rfl hs13) rfl (List.Perm.refl _)
                · rintro f M ⟨k0, -⟩ -
                  have hs115 : f 115 = .int .i64 (0) := k0
                  refine ob_start (L' := M) (by rfl) (up_cons rfl hs115) ?_
                  refine l_val (v := .bool true) rfl rfl rfl (e_eql (a := (0 : Int)) (b := (0 : Int)) rfl rfl) ?_
                  refine l_nil ?_
                  exact f_owes_d (up_cons rfl hs115) rfl (List.Perm.refl _)
                · rintro f M ⟨k0, -⟩ -
                  have hs116 : f 116 = .bool true := k0
                  refine ob_start (L' := M) (by rfl) (up_cons rfl hs116) ?_
                  refine l_val (v := .bool true) rfl rfl rfl (e_move) ?_
                  refine l_nil ?_
                  exact f_owes_d (up_cons rfl hs116) rfl (List.Perm.refl _)
                · rintro f M ⟨k0, -⟩ ⟨i0, -⟩
                  have hs12 : f 12 = .pointer (some ⟨b62, 0, none⟩) := i0
                  have hs117 : f 117 = .bool true := k0
                  refine ob_start (L' := M) (by rfl) (up_cons (up_cons rfl hs12) hs117) ?_
                  refine g_val (v := .pointer (some ⟨b62, 0, none⟩)) rfl rfl rfl rfl rfl (e_fieldPt (b := b62) (o := 0) rfl tf48) ?_
                  refine l_nil ?_
                  exact f_owes_d (up_cons (up_cons rfl hs12) hs117) rfl (List.Perm.refl _)
                · rintro f M ⟨k0, k1, -⟩ -
                  have hs118 : f 118 = .pointer (some ⟨b62, 0, none⟩) := k0
                  have hs117 : f 117 = .bool true := k1
                  refine ob_start (L' := pt b62 (.cells #[Nx (ti.epoch), Nx (ti.next), .slice ps58 (ti.state).length cs60, .slice pr59 (ti.recs).length cr61, Nx (ti.size)] 36) :: M) (by rfl) (up_cons (up_cons rfl hs118) hs117) ?_
                  refine g_val (v := Nx (ti.epoch)) rfl rfl rfl rfl rfl (e_load1 tf25 (v := Nx (ti.epoch)) rfl (k_pt 0 (cs := #[Nx (ti.epoch), Nx (ti.next), .slice ps58 (ti.state).length cs60, .slice pr59 (ti.recs).length cr61, Nx (ti.size)]) (vs := [Nx (ti.epoch)]) rfl rfl)) ?_
                  refine l_nil ?_
                  exact f_owes_d (up_cons (up_cons rfl hs118) hs117) rfl (perm_front 0 rfl)
                · rintro f M ⟨k0, -⟩ ⟨i0, -⟩
                  have hs8 : f 8 = .pointer (some ⟨b7, 0, none⟩) := i0
                  have hs117 : f 117 = .bool true := k0
                  refine ob_start (L' := M) (by rfl) (up_cons (up_cons rfl hs8) hs117) ?_
                  refine g_val (v := .pointer (some ⟨b7, 0, none⟩)) rfl rfl rfl rfl rfl (e_fieldPt (b := b7) (o := 0) rfl tf89) ?_
                  refine l_nil ?_
                  exact f_owes_d (up_cons (up_cons rfl hs8) hs117) rfl (List.Perm.refl _)
                · rintro f M ⟨k0, k1, -⟩ -
                  have hs120 : f 120 = .pointer (some ⟨b7, 0, none⟩) := k0
                  have hs117 : f 117 = .bool true := k1
                  refine ob_start (L' := pt b7 (.cells #[Nx (C4.epoch), Nx (C4.next), .string (C4.state), .slice p5 (C4.recs).length c6] 27) :: M) (by rfl) (up_cons (up_cons rfl hs120) hs117) ?_
                  refine g_val (v := Nx (C4.epoch)) rfl rfl rfl rfl rfl (e_load1 tf25 (v := Nx (C4.epoch)) rfl (k_pt 0 (cs := #[Nx (C4.epoch), Nx (C4.next), .string (C4.state), .slice p5 (C4.recs).length c6]) (vs := [Nx (C4.epoch)]) rfl rfl)) ?_
                  refine l_nil ?_
                  exact f_owes_d (up_cons (up_cons rfl hs120) hs117) rfl (perm_front 0 rfl)
                · rintro f M ⟨k0, k1, k2, -⟩ -
                  have hs119 : f 119 = Nx (ti.epoch) := k0
                  have hs121 : f 121 = Nx (C4.epoch) := k1
                  have hs117 : f 117 = .bool true := k2
                  refine ob_start (L' := M) (by rfl) (up_cons (up_cons (up_cons rfl hs119) hs121) hs117) ?_
                  refine g_val (v := .bool true) rfl rfl rfl rfl rfl ((ev_t (by omega) (e_eql (a := ((ti.epoch : Nat) : Int)) (b := ((C4.epoch : Nat) : Int)) rfl rfl))) ?_
                  refine l_nil ?_
                  exact f_owes_d (up_cons (up_cons (up_cons rfl hs119) hs121) hs117) rfl (List.Perm.refl _)
                · rintro f M ⟨k0, k1, -⟩ -
                  have hs117 : f 117 = .bool true := k0
                  have hs122 : f 122 = .bool true := k1
                  refine ob_start (L' := M) (by rfl) (up_cons (up_cons rfl hs117) hs122) ?_
                  refine l_val (v := .bool true) rfl rfl rfl (e_pick_t rfl) ?_
                  refine l_nil ?_
                  exact f_owes_d (up_cons (up_cons rfl hs117) hs122) rfl (List.Perm.refl _)
                · rintro f M ⟨k0, -⟩ -
                  have hs123 : f 123 = .bool true := k0
                  refine ob_start (L' := M) (by rfl) (up_cons rfl hs123) ?_
                  refine l_val (v := .bool true) rfl rfl rfl (e_move) ?_
                  refine l_nil ?_
                  exact f_owes_d (up_cons rfl hs123) rfl (List.Perm.refl _)
                · rintro f M ⟨k0, -⟩ ⟨i0, -⟩
                  have hs12 : f 12 = .pointer (some ⟨b62, 0, none⟩) := i0
                  have hs124 : f 124 = .bool true := k0
                  refine ob_start (L' := M) (by rfl) (up_cons (up_cons rfl hs12) hs124) ?_
                  refine g_val (v := .pointer (some ⟨b62, 4, none⟩)) rfl rfl rfl rfl rfl (e_fieldPt (b := b62) (o := 0) rfl tf50) ?_
                  refine l_nil ?_
                  exact f_owes_d (up_cons (up_cons rfl hs12) hs124) rfl (List.Perm.refl _)
                · rintro f M ⟨k0, k1, -⟩ -
                  have hs125 : f 125 = .pointer (some ⟨b62, 4, none⟩) := k0
                  have hs124 : f 124 = .bool true := k1
                  refine ob_start (L' := pt b62 (.cells #[Nx (ti.epoch), Nx (ti.next), .slice ps58 (ti.state).length cs60, .slice pr59 (ti.recs).length cr61, Nx (ti.size)] 36) :: M) (by rfl) (up_cons (up_cons rfl hs125) hs124) ?_
                  refine g_val (v := Nx (ti.size)) rfl rfl rfl rfl rfl (e_load1 tf25 (v := Nx (ti.size)) rfl (k_pt 0 (cs := #[Nx (ti.epoch), Nx (ti.next), .slice ps58 (ti.state).length cs60, .slice pr59 (ti.recs).length cr61, Nx (ti.size)]) (vs := [Nx (ti.size)]) rfl rfl)) ?_
                  refine l_nil ?_
                  exact f_owes_d (up_cons (up_cons rfl hs125) hs124) rfl (perm_front 0 rfl)
                · rintro f M ⟨k0, -⟩ ⟨i0, -⟩
                  have hs14 : f 14 = Nx (24 + ((C4.state).size) + sizes (I3.recs.take wz)) := i0
                  have hs124 : f 124 = .bool true := k0
                  refine ob_start (L' := M) (by rfl) (up_cons (up_cons rfl hs14) hs124) ?_
                  refine g_val (v := Nx (24 + ((C4.state).size) + sizes (I3.recs.take wz))) rfl rfl rfl rfl rfl (e_move) ?_
                  refine l_nil ?_
                  exact f_owes_d (up_cons (up_cons rfl hs14) hs124) rfl (List.Perm.refl _)
                · rintro f M ⟨k0, k1, k2, -⟩ -
                  have hs126 : f 126 = Nx (ti.size) := k0
                  have hs127 : f 127 = Nx (24 + ((C4.state).size) + sizes (I3.recs.take wz)) := k1
                  have hs124 : f 124 = .bool true := k2
                  refine ob_start (L' := M) (by rfl) (up_cons (up_cons (up_cons rfl hs126) hs127) hs124) ?_
                  refine g_val (v := .bool true) rfl rfl rfl rfl rfl ((ev_t (by omega) (e_eql (a := ((ti.size : Nat) : Int)) (b := ((24 + ((C4.state).size) + sizes (I3.recs.take wz) : Nat) : Int)) rfl rfl))) ?_
                  refine l_nil ?_
                  exact f_owes_d (up_cons (up_cons (up_cons rfl hs126) hs127) hs124) rfl (List.Perm.refl _)
                · rintro f M ⟨k0, k1, -⟩ -
                  have hs124 : f 124 = .bool true := k0
                  have hs128 : f 128 = .bool true := k1
                  refine ob_start (L' := M) (by rfl) (up_cons (up_cons rfl hs124) hs128) ?_
                  refine l_val (v := .bool true) rfl rfl rfl (e_pick_t rfl) ?_
                  refine l_nil ?_
                  exact f_owes_d (up_cons (up_cons rfl hs124) hs128) rfl (List.Perm.refl _)
                · rintro f M ⟨k0, -⟩ -
                  have hs129 : f 129 = .bool true := k0
                  refine ob_start (L' := M) (by rfl) (up_cons rfl hs129) ?_
                  refine l_val (v := .bool true) rfl rfl rfl (e_move) ?_
                  refine l_nil ?_
                  exact f_owes_d (up_cons rfl hs129) rfl (List.Perm.refl _)
                · rintro f M ⟨k0, -⟩ ⟨i0, -⟩
                  have hs12 : f 12 = .pointer (some ⟨b62, 0, none⟩) := i0
                  have hs130 : f 130 = .bool true := k0
                  refine ob_start (L' := M) (by rfl) (up_cons (up_cons rfl hs12) hs130) ?_
                  refine g_val (v := .pointer (some ⟨b62, 2, none⟩)) rfl rfl rfl rfl rfl (e_fieldPt (b := b62) (o := 0) rfl tf63) ?_
                  refine l_nil ?_
                  exact f_owes_d (up_cons (up_cons rfl hs12) hs130) rfl (List.Perm.refl _)
                · rintro f M ⟨k0, k1, -⟩ -
                  have hs131 : f 131 = .pointer (some ⟨b62, 2, none⟩) := k0
                  have hs130 : f 130 = .bool true := k1
                  refine ob_start (L' := pt b62 (.cells #[Nx (ti.epoch), Nx (ti.next), .slice ps58 (ti.state).length cs60, .slice pr59 (ti.recs).length cr61, Nx (ti.size)] 36) :: M) (by rfl) (up_cons (up_cons rfl hs131) hs130) ?_
                  refine g_val (v := .slice ps58 (ti.state).length cs60) rfl rfl rfl rfl rfl (e_load1 tf21 (v := .slice ps58 (ti.state).length cs60) rfl (k_pt 0 (cs := #[Nx (ti.epoch), Nx (ti.next), .slice ps58 (ti.state).length cs60, .slice pr59 (ti.recs).length cr61, Nx (ti.size)]) (vs := [.slice ps58 (ti.state).length cs60]) rfl rfl)) ?_
                  refine l_nil ?_
                  exact f_owes_d (up_cons (up_cons rfl hs131) hs130) rfl (perm_front 0 rfl)
                · rintro f M ⟨k0, k1, -⟩ -
                  have hs132 : f 132 = .slice ps58 (ti.state).length cs60 := k0
                  have hs130 : f 130 = .bool true := k1
                  refine ob_start (L' := row (.slice ps58 (ti.state).length cs60) 5 1 ((ti.state).length) (BX ti.state) :: M) (by rfl) (up_cons (up_cons rfl hs132) hs130) ?_
                  refine g_val (v := .string (str ti.state)) rfl rfl rfl rfl rfl (e_bytesStr (a := ps58) (bs := ti.state) (m := (ti.state).length) (c := cs60) rfl (by first | rfl | simp) tf11 tf8 tf7 (k_rowE 0 rfl)) ?_
                  refine l_nil ?_
                  exact f_owes_d (up_cons (up_cons rfl hs132) hs130) rfl (perm_front 0 rfl)
                · rintro f M ⟨k0, -⟩ ⟨i0, -⟩
                  have hs8 : f 8 = .pointer (some ⟨b7, 0, none⟩) := i0
                  have hs130 : f 130 = .bool true := k0
                  refine ob_start (L' := M) (by rfl) (up_cons (up_cons rfl hs8) hs130) ?_
                  refine g_val (v := .pointer (some ⟨b7, 2, none⟩)) rfl rfl rfl rfl rfl (e_fieldPt (b := b7) (o := 0) rfl tf93) ?_
                  refine l_nil ?_
                  exact f_owes_d (up_cons (up_cons rfl hs8) hs130) rfl (List.Perm.refl _)
                · rintro f M ⟨k0, k1, -⟩ -
                  have hs134 : f 134 = .pointer (some ⟨b7, 2, none⟩) := k0
                  have hs130 : f 130 = .bool true := k1
                  refine ob_start (L' := pt b7 (.cells #[Nx (C4.epoch), Nx (C4.next), .string (C4.state), .slice p5 (C4.recs).length c6] 27) :: M) (by rfl) (up_cons (up_cons rfl hs134) hs130) ?_
                  refine g_val (v := .string (C4.state)) rfl rfl rfl rfl rfl (e_load1 tf6 (v := .string (C4.state)) rfl (k_pt 0 (cs := #[Nx (C4.epoch), Nx (C4.next), .string (C4.state), .slice p5 (C4.recs).length c6]) (vs := [.string (C4.state)]) rfl rfl)) ?_
                  refine l_nil ?_
                  exact f_owes_d (up_cons (up_cons rfl hs134) hs130) rfl (perm_front 0 rfl)
                · rintro f M ⟨k0, k1, k2, -⟩ -
                  have hs133 : f 133 = .string (str ti.state) := k0
                  have hs135 : f 135 = .string (C4.state) := k1
                  have hs130 : f 130 = .bool true := k2
                  refine ob_start (L' := M) (by rfl) (up_cons (up_cons (up_cons rfl hs133) hs135) hs130) ?_
                  refine g_val (v := .bool true) rfl rfl rfl rfl rfl ((ev_t (by rw [htst]; exact hC.2.2.1) (e_eql_s (a := (str ti.state)) (b := C4.state) rfl rfl))) ?_
                  refine l_nil ?_
                  exact f_owes_d (up_cons (up_cons (up_cons rfl hs133) hs135) hs130) rfl (List.Perm.refl _)
                · rintro f M ⟨k0, k1, -⟩ -
                  have hs130 : f 130 = .bool true := k0
                  have hs136 : f 136 = .bool true := k1
                  refine ob_start (L' := M) (by rfl) (up_cons (up_cons rfl hs130) hs136) ?_
                  refine l_val (v := .bool true) rfl rfl rfl (e_pick_t rfl) ?_
                  refine l_nil ?_
                  exact f_owes_d (up_cons (up_cons rfl hs130) hs136) rfl (List.Perm.refl _)
                · rintro f M ⟨k0, -⟩ -
                  have hs137 : f 137 = .bool true := k0
                  refine ob_start (L' := M) (by rfl) (up_cons rfl hs137) ?_
                  refine l_val (v := .bool true) rfl rfl rfl (e_move) ?_
                  refine l_nil ?_
                  exact f_owes_d (up_cons rfl hs137) rfl (List.Perm.refl _)
                · rintro f M ⟨k0, -⟩ ⟨i0, -⟩
                  have hs12 : f 12 = .pointer (some ⟨b62, 0, none⟩) := i0
                  have hs138 : f 138 = .bool true := k0
                  refine ob_start (L' := M) (by rfl) (up_cons (up_cons rfl hs12) hs138) ?_
                  refine g_val (v := .pointer (some ⟨b62, 3, none⟩)) rfl rfl rfl rfl rfl (e_fieldPt (b := b62) (o := 0) rfl tf64) ?_
                  refine l_nil ?_
                  exact f_owes_d (up_cons (up_cons rfl hs12) hs138) rfl (List.Perm.refl _)
                · rintro f M ⟨k0, k1, -⟩ -
                  have hs139 : f 139 = .pointer (some ⟨b62, 3, none⟩) := k0
                  have hs138 : f 138 = .bool true := k1
                  refine ob_start (L' := pt b62 (.cells #[Nx (ti.epoch), Nx (ti.next), .slice ps58 (ti.state).length cs60, .slice pr59 (ti.recs).length cr61, Nx (ti.size)] 36) :: M) (by rfl) (up_cons (up_cons rfl hs139) hs138) ?_
                  refine g_val (v := .slice pr59 (ti.recs).length cr61) rfl rfl rfl rfl rfl (e_load1 tf65 (v := .slice pr59 (ti.recs).length cr61) rfl (k_pt 0 (cs := #[Nx (ti.epoch), Nx (ti.next), .slice ps58 (ti.state).length cs60, .slice pr59 (ti.recs).length cr61, Nx (ti.size)]) (vs := [.slice pr59 (ti.recs).length cr61]) rfl rfl)) ?_
                  refine l_nil ?_
                  exact f_owes_d (up_cons (up_cons rfl hs139) hs138) rfl (perm_front 0 rfl)
                · rintro f M ⟨k0, k1, -⟩ -
                  have hs140 : f 140 = .slice pr59 (ti.recs).length cr61 := k0
                  have hs138 : f 138 = .bool true := k1
                  refine ob_start (L' := recsR 30 pr59 cr61 ti.recs :: M) (by rfl) (up_cons (up_cons rfl hs140) hs138) ?_
                  refine g_call rfl rfl rfl rfl rfl (cl_value (fst := []) (cap := []) (vs := [.slice pr59 (ti.recs).length cr61]) (all := [.slice pr59 (ti.recs).length cr61]) tf95 rfl rfl rfl) ?_
                  intro w hw
                  obtain ⟨β1, sb, kn, hw1, back⟩ := St.frame_all hw
                  refine (text_ok β1 w hw1 ti.recs _ (by omega) (kn _ (Knows.of_res 0 rfl (Sl.mono BsR _ _) fun _ h => recs_sl h))).mono ?_
                  rintro e w' ⟨p71, c72, rfl, hw'⟩
                  refine ⟨_, rfl, _, back _ _ hw', ?_⟩
                  clear hw hw1 hw' back kn sb
                  refine l_nil ?_
                  exact f_owes_d (up_cons (up_cons rfl hs140) hs138) rfl ((perm_front 0 rfl).trans (perm_front 1 rfl))
                · rintro f M ⟨k0, -⟩ ⟨i0, -⟩
                  have hs8 : f 8 = .pointer (some ⟨b7, 0, none⟩) := i0
                  have hs138 : f 138 = .bool true := k0
                  refine ob_start (L' := M) (by rfl) (up_cons (up_cons rfl hs8) hs138) ?_
                  refine g_val (v := .pointer (some ⟨b7, 3, none⟩)) rfl rfl rfl rfl rfl (e_fieldPt (b := b7) (o := 0) rfl tf96) ?_
                  refine l_nil ?_
                  exact f_owes_d (up_cons (up_cons rfl hs8) hs138) rfl (List.Perm.refl _)
                · rintro f M ⟨k0, k1, -⟩ -
                  have hs142 : f 142 = .pointer (some ⟨b7, 3, none⟩) := k0
                  have hs138 : f 138 = .bool true := k1
                  refine ob_start (L' := pt b7 (.cells #[Nx (C4.epoch), Nx (C4.next), .string (C4.state), .slice p5 (C4.recs).length c6] 27) :: M) (by rfl) (up_cons (up_cons rfl hs142) hs138) ?_
                  refine g_val (v := .slice p5 (C4.recs).length c6) rfl rfl rfl rfl rfl (e_load1 tf97 (v := .slice p5 (C4.recs).length c6) rfl (k_pt 0 (cs := #[Nx (C4.epoch), Nx (C4.next), .string (C4.state), .slice p5 (C4.recs).length c6]) (vs := [.slice p5 (C4.recs).length c6]) rfl rfl)) ?_
                  refine l_nil ?_
                  exact f_owes_d (up_cons (up_cons rfl hs142) hs138) rfl (perm_front 0 rfl)
                · rintro f M ⟨k0, -⟩ ⟨i0, -⟩
                  have hs15 : f 15 = Nx (wz) := i0
                  have hs138 : f 138 = .bool true := k0
                  refine ob_start (L' := M) (by rfl) (up_cons (up_cons rfl hs15) hs138) ?_
                  refine g_val (v := Nx (wz)) rfl rfl rfl rfl rfl (e_move) ?_
                  refine l_nil ?_
                  exact f_owes_d (up_cons (up_cons rfl hs15) hs138) rfl (List.Perm.refl _)
                · rintro f M ⟨k0, k1, k2, -⟩ -
                  have hs143 : f 143 = .slice p5 (C4.recs).length c6 := k0
                  have hs144 : f 144 = Nx (wz) := k1
                  have hs138 : f 138 = .bool true := k2
                  refine ob_start (L' := M) (by rfl) (up_cons (up_cons (up_cons rfl hs143) hs144) hs138) ?_
                  refine g_val (v := .slice p5 (wz) c6) rfl rfl rfl rfl rfl (e_slice_hi (a := p5) (len := (C4.recs).length) (cap := c6) (h := wz) tf78 rfl rfl (by omega)) ?_
                  refine l_nil ?_
                  exact f_owes_d (up_cons (up_cons (up_cons rfl hs143) hs144) hs138) rfl (List.Perm.refl _)
                · rintro f M ⟨k0, k1, k2, -⟩ -
                  have hs141 : f 141 = .slice (sla (f 141)) (ti.recs.map str).length (slc (f 141)) := k0
                  have hs145 : f 145 = .slice p5 (wz) c6 := k1
                  have hs138 : f 138 = .bool true := k2
                  refine ob_start (L' := row (.slice p5 (C4.recs).length c6) 9 1 ((C4.recs).length) (C4.recs.map (fun s : ByteArray => Value.string s)) :: row (.slice (sla (f 141)) (ti.recs.map str).length (slc (f 141))) 9 1 ((ti.recs.map str).length) ((ti.recs.map str).map (fun s : ByteArray => Value.string s)) :: M) (by rfl) (up_cons (up_cons (up_cons rfl hs141) hs145) hs138) ?_
                  refine g_call rfl rfl rfl rfl rfl (cl_value (fst := []) (cap := []) (vs := [.slice (sla (f 141)) (ti.recs.map str).length (slc (f 141)), .slice p5 (wz) c6]) (all := [.slice (sla (f 141)) (ti.recs.map str).length (slc (f 141)), .slice p5 (wz) c6]) tf98 rfl rfl rfl) ?_
                  intro w hw
                  obtain ⟨β1, sb, kn, hw1, back⟩ := St.frame_all hw
                  refine (samet_ok β1 w hw1 (ti.recs.map str) (C4.recs.take wz) _ _ (kn _ (Knows.of_res 1 rfl (Sl.mono StrR _ _) fun _ h => row_str h)) (kn _ (Knows.of_res 0 rfl (Sl.mono StrR _ _) fun _ h => row_str_take h (by omega)))).mono ?_
                  rintro e w' ⟨rfl, hw'⟩
                  refine ⟨_, rfl, _, back _ _ hw', ?_⟩
                  clear hw hw1 hw' back kn sb
                  refine l_nil ?_
                  exact f_owes_d (up_cons (up_cons (up_cons rfl hs141) hs145) hs138) (congrArg Value.bool (decide_eq_true (by rw [htr, List.map_take, hC.2.2.2]))) ((perm_front 1 rfl).trans (perm_front 1 rfl))
                · rintro f M ⟨k0, k1, -⟩ -
                  have hs138 : f 138 = .bool true := k0
                  have hs146 : f 146 = .bool true := k1
                  refine ob_start (L' := M) (by rfl) (up_cons (up_cons rfl hs138) hs146) ?_
                  refine l_val (v := .bool true) rfl rfl rfl (e_pick_t rfl) ?_
                  refine l_nil ?_
                  exact f_owes_d (up_cons (up_cons rfl hs138) hs146) rfl (List.Perm.refl _)
                · rintro f M ⟨k0, -⟩ -
                  have hs147 : f 147 = .bool true := k0
                  refine ob_start (L' := M) (by rfl) (up_cons rfl hs147) ?_
                  refine l_val (v := .bool true) rfl rfl rfl (e_move) ?_
                  refine l_nil ?_
                  exact f_owes_d (up_cons rfl hs147) rfl (List.Perm.refl _)
                · rintro f M ⟨k0, -⟩ ⟨i0, -⟩
                  have hs12 : f 12 = .pointer (some ⟨b62, 0, none⟩) := i0
                  have hs148 : f 148 = .bool true := k0
                  refine ob_start (L' := M) (by rfl) (up_cons (up_cons rfl hs12) hs148) ?_
                  refine g_val (v := .pointer (some ⟨b62, 1, none⟩)) rfl rfl rfl rfl rfl (e_fieldPt (b := b62) (o := 0) rfl tf53) ?_
                  refine l_nil ?_
                  exact f_owes_d (up_cons (up_cons rfl hs12) hs148) rfl (List.Perm.refl _)
                · rintro f M ⟨k0, k1, -⟩ -
                  have hs149 : f 149 = .pointer (some ⟨b62, 1, none⟩) := k0
                  have hs148 : f 148 = .bool true := k1
                  refine ob_start (L' := pt b62 (.cells #[Nx (ti.epoch), Nx (ti.next), .slice ps58 (ti.state).length cs60, .slice pr59 (ti.recs).length cr61, Nx (ti.size)] 36) :: M) (by rfl) (up_cons (up_cons rfl hs149) hs148) ?_
                  refine g_val (v := Nx (ti.next)) rfl rfl rfl rfl rfl (e_load1 tf25 (v := Nx (ti.next)) rfl (k_pt 0 (cs := #[Nx (ti.epoch), Nx (ti.next), .slice ps58 (ti.state).length cs60, .slice pr59 (ti.recs).length cr61, Nx (ti.size)]) (vs := [Nx (ti.next)]) rfl rfl)) ?_
                  refine l_nil ?_
                  exact f_owes_d (up_cons (up_cons rfl hs149) hs148) rfl (perm_front 0 rfl)
                · rintro f M ⟨k0, -⟩ ⟨i0, -⟩
                  have hs8 : f 8 = .pointer (some ⟨b7, 0, none⟩) := i0
                  have hs148 : f 148 = .bool true := k0
                  refine ob_start (L' := M) (by rfl) (up_cons (up_cons rfl hs8) hs148) ?_
                  refine g_val (v := .pointer (some ⟨b7, 1, none⟩)) rfl rfl rfl rfl rfl (e_fieldPt (b := b7) (o := 0) rfl tf91) ?_
                  refine l_nil ?_
                  exact f_owes_d (up_cons (up_cons rfl hs8) hs148) rfl (List.Perm.refl _)
                · rintro f M ⟨k0, k1, -⟩ -
                  have hs151 : f 151 = .pointer (some ⟨b7, 1, none⟩) := k0
                  have hs148 : f 148 = .bool true := k1
                  refine ob_start (L' := pt b7 (.cells #[Nx (C4.epoch), Nx (C4.next), .string (C4.state), .slice p5 (C4.recs).length c6] 27) :: M) (by rfl) (up_cons (up_cons rfl hs151) hs148) ?_
                  refine g_val (v := Nx (C4.next)) rfl rfl rfl rfl rfl (e_load1 tf25 (v := Nx (C4.next)) rfl (k_pt 0 (cs := #[Nx (C4.epoch), Nx (C4.next), .string (C4.state), .slice p5 (C4.recs).length c6]) (vs := [Nx (C4.next)]) rfl rfl)) ?_
                  refine l_nil ?_
                  exact f_owes_d (up_cons (up_cons rfl hs151) hs148) rfl (perm_front 0 rfl)
                · rintro f M ⟨k0, -⟩ ⟨i0, -⟩
                  have hs8 : f 8 = .pointer (some ⟨b7, 0, none⟩) := i0
                  have hs148 : f 148 = .bool true := k0
                  refine ob_start (L' := M) (by rfl) (up_cons (up_cons rfl hs8) hs148) ?_
                  refine g_val (v := .pointer (some ⟨b7, 3, none⟩)) rfl rfl rfl rfl rfl (e_fieldPt (b := b7) (o := 0) rfl tf96) ?_
                  refine l_nil ?_
                  exact f_owes_d (up_cons (up_cons rfl hs8) hs148) rfl (List.Perm.refl _)
                · rintro f M ⟨k0, k1, -⟩ -
                  have hs153 : f 153 = .pointer (some ⟨b7, 3, none⟩) := k0
                  have hs148 : f 148 = .bool true := k1
                  refine ob_start (L' := pt b7 (.cells #[Nx (C4.epoch), Nx (C4.next), .string (C4.state), .slice p5 (C4.recs).length c6] 27) :: M) (by rfl) (up_cons (up_cons rfl hs153) hs148) ?_
                  refine g_val (v := .slice p5 (C4.recs).length c6) rfl rfl rfl rfl rfl (e_load1 tf97 (v := .slice p5 (C4.recs).length c6) rfl (k_pt 0 (cs := #[Nx (C4.epoch), Nx (C4.next), .string (C4.state), .slice p5 (C4.recs).length c6]) (vs := [.slice p5 (C4.recs).length c6]) rfl rfl)) ?_
                  refine l_nil ?_
                  exact f_owes_d (up_cons (up_cons rfl hs153) hs148) rfl (perm_front 0 rfl)
                · rintro f M ⟨k0, k1, -⟩ -
                  have hs154 : f 154 = .slice p5 (C4.recs).length c6 := k0
                  have hs148 : f 148 = .bool true := k1
                  refine ob_start (L' := M) (by rfl) (up_cons (up_cons rfl hs154) hs148) ?_
                  refine g_val (v := Nx ((C4.recs).length)) rfl rfl rfl rfl rfl (e_len (a := p5) (n := (C4.recs).length) (c := c6) rfl tf81) ?_
                  refine l_nil ?_
                  exact f_owes_d (up_cons (up_cons rfl hs154) hs148) rfl (List.Perm.refl _)
                · rintro f M ⟨k0, k1, k2, -⟩ -
                  have hs152 : f 152 = Nx (C4.next) := k0
                  have hs155 : f 155 = Nx ((C4.recs).length) := k1
                  have hs148 : f 148 = .bool true := k2
                  refine ob_start (L' := M) (by rfl) (up_cons (up_cons (up_cons rfl hs152) hs155) hs148) ?_
                  refine g_val (v := Ix (((C4.next : Nat) : Int) - (((C4.recs).length : Nat) : Int))) rfl rfl rfl rfl rfl (e_sub (a := ((C4.next : Nat) : Int)) (b := (((C4.recs).length : Nat) : Int)) rfl rfl (i64w (by omega))) ?_
                  refine l_nil ?_
                  exact f_owes_d (up_cons (up_cons (up_cons rfl hs152) hs155) hs148) rfl (List.Perm.refl _)
                · rintro f M ⟨k0, -⟩ ⟨i0, -⟩
                  have hs15 : f 15 = Nx (wz) := i0
                  have hs148 : f 148 = .bool true := k0
                  refine ob_start (L' := M) (by rfl) (up_cons (up_cons rfl hs15) hs148) ?_
                  refine g_val (v := Nx (wz)) rfl rfl rfl rfl rfl (e_move) ?_
                  refine l_nil ?_
                  exact f_owes_d (up_cons (up_cons rfl hs15) hs148) rfl (List.Perm.refl _)
                · rintro f M ⟨k0, k1, k2, -⟩ -
                  have hs156 : f 156 = Ix (((C4.next : Nat) : Int) - (((C4.recs).length : Nat) : Int)) := k0
                  have hs157 : f 157 = Nx (wz) := k1
                  have hs148 : f 148 = .bool true := k2
                  refine ob_start (L' := M) (by rfl) (up_cons (up_cons (up_cons rfl hs156) hs157) hs148) ?_
                  refine g_val (v := Ix ((((C4.next : Nat) : Int) - (((C4.recs).length : Nat) : Int)) + ((wz : Nat) : Int))) rfl rfl rfl rfl rfl (e_add (a := (((C4.next : Nat) : Int) - (((C4.recs).length : Nat) : Int))) (b := ((wz : Nat) : Int)) rfl rfl (i64w (by omega))) ?_
                  refine l_nil ?_
                  exact f_owes_d (up_cons (up_cons (up_cons rfl hs156) hs157) hs148) rfl (List.Perm.refl _)
                · rintro f M ⟨k0, k1, k2, -⟩ -
                  have hs150 : f 150 = Nx (ti.next) := k0
                  have hs158 : f 158 = Ix ((((C4.next : Nat) : Int) - (((C4.recs).length : Nat) : Int)) + ((wz : Nat) : Int)) := k1
                  have hs148 : f 148 = .bool true := k2
                  refine ob_start (L' := M) (by rfl) (up_cons (up_cons (up_cons rfl hs150) hs158) hs148) ?_
                  refine g_val (v := .bool true) rfl rfl rfl rfl rfl ((ev_t (by omega) (e_eql (a := ((ti.next : Nat) : Int)) (b := ((((C4.next : Nat) : Int) - (((C4.recs).length : Nat) : Int)) + ((wz : Nat) : Int))) rfl rfl))) ?_
                  refine l_nil ?_
                  exact f_owes_d (up_cons (up_cons (up_cons rfl hs150) hs158) hs148) rfl (List.Perm.refl _)
                · rintro f M ⟨k0, k1, -⟩ -
                  have hs148 : f 148 = .bool true := k0
                  have hs159 : f 159 = .bool true := k1
                  refine ob_start (L' := M) (by rfl) (up_cons (up_cons rfl hs148) hs159) ?_
                  refine l_val (v := .bool true) rfl rfl rfl (e_pick_t rfl) ?_
                  refine l_nil ?_
                  exact f_owes_d (up_cons (up_cons rfl hs148) hs159) rfl (List.Perm.refl _)
                · rintro f M ⟨k0, -⟩ -
                  have hs160 : f 160 = .bool true := k0
                  refine ob_start (L' := M) (by rfl) (up_cons rfl hs160) ?_
                  refine l_val (v := .bool true) rfl rfl rfl (e_move) ?_
                  refine l_nil ?_
                  exact f_owes_d (up_cons rfl hs160) rfl (List.Perm.refl _)
                · rintro f M ⟨k0, -⟩ -
                  have hs161 : f 161 = .bool true := k0
                  refine ob_start (L' := M) (by rfl) (up_cons rfl hs161) ?_
                  refine g_call rfl rfl rfl rfl rfl (cl_value (fst := []) (cap := []) (vs := []) (all := []) tf111 rfl rfl rfl) ?_
                  intro w hw
                  obtain ⟨β1, sb, kn, hw1, back⟩ := St.frame_all hw
                  refine (awake_ok β1 w hw1).mono ?_
                  rintro e w' ⟨rfl, hw'⟩
                  refine ⟨_, rfl, _, back _ _ hw', ?_⟩
                  clear hw hw1 hw' back kn sb
                  refine l_nil ?_
                  exact f_owes_d (up_cons rfl hs161) rfl (List.Perm.refl _)
                · rintro f M ⟨k0, k1, -⟩ -
                  have hs161 : f 161 = .bool true := k0
                  have hs162 : f 162 = .bool true := k1
                  refine ob_start (L' := M) (by rfl) (up_cons (up_cons rfl hs161) hs162) ?_
                  refine l_val (v := .bool true) rfl rfl rfl (e_pick_t rfl) ?_
                  refine l_nil ?_
                  exact f_owes_d (up_cons (up_cons rfl hs161) hs162) rfl (List.Perm.refl _)
                · rintro f M ⟨k0, -⟩ -
                  have hs163 : f 163 = .bool true := k0
                  refine ob_start (L' := M) (by rfl) (up_cons rfl hs163) ?_
                  refine l_val (v := .bool true) rfl rfl rfl (e_assign) ?_
                  refine l_nil ?_
                  exact f_owes_d (up_cons rfl hs163) rfl (List.Perm.refl _)
                rintro fa73 ⟨-, -, -, -, -, -, -, -, -, -, -, -, -, -, -, -, -, -, -, -, -, -, -, -, -, -, -, -, -, -, -, -, -, -, -, -, -, -, -, -, -, -, -, -, -, -, -, -, -, k49, -⟩ -
                refine f_re (L' := [pt b62 (.cells #[Nx (ti.epoch), Nx (ti.next), .slice ps58 (ti.state).length cs60, .slice pr59 (ti.recs).length cr61, Nx (ti.size)] 36), row (.slice ps58 (ti.state).length cs60) 5 1 ((ti.state).length) (BX ti.state), recsR 30 pr59 cr61 ti.recs, pt S1 (.cells #[.slice pH8 (K2.head).length cH11, .slice pA9 ((K2.a.set (at_ % ((K2.a).length)) (c53 ^^^ (max by_ (1 : UInt8))))).length cA12, .slice pB10 (K2.b).length cB13, Ix (K2.power)] 32), row (.slice pH8 (K2.head).length cH11) 5 1 ((K2.head).length) (BX K2.head), row (.slice pA9 ((K2.a.set (at_ % ((K2.a).length)) (c53 ^^^ (max by_ (1 : UInt8))))).length cA12) 5 1 (((K2.a.set (at_ % ((K2.a).length)) (c53 ^^^ (max by_ (1 : UInt8))))).length) (BX (K2.a.set (at_ % ((K2.a).length)) (c53 ^^^ (max by_ (1 : UInt8))))), row (.slice pB10 (K2.b).length cB13) 5 1 ((K2.b).length) (BX K2.b), pt b7 (.cells #[Nx (C4.epoch), Nx (C4.next), .string (C4.state), .slice p5 (C4.recs).length c6] 27), row (.slice p5 (C4.recs).length c6) 9 1 ((C4.recs).length) (C4.recs.map (fun s : ByteArray => Value.string s)), row (.slice (sla (fa73 141)) (ti.recs.map str).length (slc (fa73 141))) 9 1 ((ti.recs.map str).length) ((ti.recs.map str).map (fun s : ByteArray => Value.string s))]) (by rfl) ?_
                refine f_rebase (d := 6) (v := .bool true) k49 ?_
                refine f_then ?_
                refine c_ret ?_
                refine ret1 Try.results3 (v := .bool true) rfl ?_
                intro w hw
                exact ⟨rfl, st_mask [false, false, false, false, false, false, false, false, false, false] rfl hw⟩
            ·
              refine l_skip rfl rfl rfl rfl rfl rfl ?_
              refine l_skip rfl rfl rfl rfl rfl rfl ?_
              refine l_skip rfl rfl rfl rfl rfl rfl ?_
              refine l_skip rfl rfl rfl rfl rfl rfl ?_
              refine l_skip rfl rfl rfl rfl rfl rfl ?_
              refine l_skip rfl rfl rfl rfl rfl rfl ?_
              refine l_skip rfl rfl rfl rfl rfl rfl ?_
              refine l_skip rfl rfl rfl rfl rfl rfl ?_
              refine l_skip rfl rfl rfl rfl rfl rfl ?_
              refine l_skip rfl rfl rfl rfl rfl rfl ?_
              refine l_skip rfl rfl rfl rfl rfl rfl ?_
              refine l_val (v := .bool false) rfl rfl rfl (e_pick_f rfl) ?_
              refine l_nil ?_
              refine f_then ?_
              refine c_no rfl ?_
              refine c_exit ?_
              refine f_then_exit ?_
              refine f_then_exit ?_
              refine f_exit ?_
              refine f_then ?_
              refine c_seq ?_
              exfalso
              have h1 := sizes_take_mono (l := I3.recs) (show tw + 1 ≤ wz by omega)
              rw [sizes_take_succ ht1] at h1
              omega
        ·
          have hbs : baseOf I3 = 0 := if_pos (by omega)
          refine c_skip ?_
          refine f_then ?_
          refine c_seq ?_
          refine c_rowcap 8 rfl (fun hcl hcm => ?_)
          refine c_region ?_
          refine l_val (v := .int .i64 (0)) rfl rfl rfl (e_assign) ?_
          refine l_nil ?_
          refine f_then ?_
          refine c_seq ?_
          refine c_block ?_
          refine c_loop (fun (wz : Nat) (f : Fm) (L : List Res) => (f 8 = .pointer (some ⟨b7, 0, none⟩) ∧ f 11 = Nx (at_ % ((K2.a).length)) ∧ f 12 = .pointer (some ⟨b62, 0, none⟩) ∧ f 13 = .int .i64 (0) ∧ f 14 = Nx (0 + sizes (I3.recs.take wz)) ∧ f 15 = Nx (wz)) ∧ L = [pt b62 (.cells #[Nx (ti.epoch), Nx (ti.next), .slice ps58 (ti.state).length cs60, .slice pr59 (ti.recs).length cr61, Nx (ti.size)] 36), row (.slice ps58 (ti.state).length cs60) 5 1 ((ti.state).length) (BX ti.state), recsR 30 pr59 cr61 ti.recs, pt S1 (.cells #[.slice pH8 (K2.head).length cH11, .slice pA9 ((K2.a.set (at_ % ((K2.a).length)) (c53 ^^^ (max by_ (1 : UInt8))))).length cA12, .slice pB10 (K2.b).length cB13, Ix (K2.power)] 32), row (.slice pH8 (K2.head).length cH11) 5 1 ((K2.head).length) (BX K2.head), row (.slice pA9 ((K2.a.set (at_ % ((K2.a).length)) (c53 ^^^ (max by_ (1 : UInt8))))).length cA12) 5 1 (((K2.a.set (at_ % ((K2.a).length)) (c53 ^^^ (max by_ (1 : UInt8))))).length) (BX (K2.a.set (at_ % ((K2.a).length)) (c53 ^^^ (max by_ (1 : UInt8))))), row (.slice pB10 (K2.b).length cB13) 5 1 ((K2.b).length) (BX K2.b), pt b7 (.cells #[Nx (C4.epoch), Nx (C4.next), .string (C4.state), .slice p5 (C4.recs).length c6] 27), row (.slice p5 (C4.recs).length c6) 9 1 ((C4.recs).length) (C4.recs.map (fun s : ByteArray => Value.string s))] ∧ (wz ≤ I3.recs.length ∧ 0 + sizes (I3.recs.take wz) ≤ (at_ % ((K2.a).length)))) (fun (wz : Nat) => I3.recs.length - wz) 0 ?_ ?_
          · exact ⟨⟨rfl, rfl, rfl, rfl, rfl, rfl⟩, rfl, ⟨by omega, by simp [sizes]; try omega⟩⟩
          rintro wz f0 L0 ⟨⟨hs8, hs11, hs12, hs13, hs14, hs15⟩, hL, ⟨hw1_, hw2_⟩⟩
          subst L0
          refine rebase (d := 8) hs8 ?_
          refine rebase (d := 11) hs11 ?_
          refine rebase (d := 12) hs12 ?_
          refine rebase (d := 13) hs13 ?_
          refine rebase (d := 14) hs14 ?_
          refine rebase (d := 15) hs15 ?_
          clear hs8 hs11 hs12 hs13 hs14 hs15
          have hsb := sizes_take_le (l := I3.recs) (w := wz)
          have hszr : baseOf I3 + sizes I3.recs ≤ 324 * 9 := by have := encI_len I3; have := hI.wf.size; have := hI.sz; omega
          refine c_seq ?_
          refine c_seq ?_
          refine c_region ?_
          refine l_val (v := Nx (wz)) rfl rfl rfl (e_move) ?_
          refine l_val (v := .pointer (some ⟨b7, 3, none⟩)) rfl rfl rfl (e_fieldPt (b := b7) (o := 0) rfl tf96) ?_
          refine l_val (v := .slice p5 (C4.recs).length c6) rfl rfl rfl (e_load1 tf97 (v := .slice p5 (C4.recs).length c6) rfl (k_pt 7 (cs := #[Nx (C4.epoch), Nx (C4.next), .string (C4.state), .slice p5 (C4.recs).length c6]) (vs := [.slice p5 (C4.recs).length c6]) rfl rfl)) ?_
          refine l_val (v := Nx ((C4.recs).length)) rfl rfl rfl (e_len (a := p5) (n := (C4.recs).length) (c := c6) rfl tf81) ?_
          refine l_val (v := .bool (decide (((wz : Nat) : Int) < (((C4.recs).length : Nat) : Int)))) rfl rfl rfl (e_lss (a := ((wz : Nat) : Int)) (b := (((C4.recs).length : Nat) : Int)) rfl rfl) ?_
          refine l_val (v := .bool (decide (((wz : Nat) : Int) < (((C4.recs).length : Nat) : Int)))) rfl rfl rfl (e_move) ?_
          refine l_split (s := 91) (p := ((wz : Nat) : Int) < (((C4.recs).length : Nat) : Int)) rfl (fun hg74 => ?_) (fun hg74 => ?_)
          ·
            refine g_val (v := Nx (at_ % ((K2.a).length))) rfl rfl rfl rfl rfl (e_move) ?_
            refine g_val (v := Nx (0 + sizes (I3.recs.take wz))) rfl rfl rfl rfl rfl (e_move) ?_
            refine g_val (v := Nx ((0 + sizes (I3.recs.take wz)) + 24)) rfl rfl rfl rfl rfl (e_add (a := ((0 + sizes (I3.recs.take wz) : Nat) : Int)) (b := (24 : Int)) rfl rfl (i64n (by omega) (by omega))) ?_
            refine g_val (v := .pointer (some ⟨b7, 3, none⟩)) rfl rfl rfl rfl rfl (e_fieldPt (b := b7) (o := 0) rfl tf96) ?_
            refine g_val (v := .slice p5 (C4.recs).length c6) rfl rfl rfl rfl rfl (e_load1 tf97 (v := .slice p5 (C4.recs).length c6) rfl (k_pt 7 (cs := #[Nx (C4.epoch), Nx (C4.next), .string (C4.state), .slice p5 (C4.recs).length c6]) (vs := [.slice p5 (C4.recs).length c6]) rfl rfl)) ?_
            refine g_val (v := Nx (wz)) rfl rfl rfl rfl rfl (e_move) ?_
            refine g_val (v := .pointer (some ((ba p5).add (wz * 1)))) rfl rfl rfl rfl rfl (e_indexRow 8 (j := wz) (len := (C4.recs).length) (cap := c6) (p := p5) rfl rfl tf78 (by omega) (by omega) rfl) ?_
            obtain ⟨c75, hc76⟩ : ∃ c, C4.recs[wz]? = some c := ⟨_, List.getElem?_eq_getElem (by omega)⟩
            obtain ⟨rw, hrw1, hrw2⟩ := recs_at hC hc76
            have hss := sizes_take_succ hrw1
            have hrw3 := (List.getElem?_eq_some_iff.1 hrw1).1
            have hsb2 := sizes_take_le (l := I3.recs) (w := wz + 1)
            refine g_val (v := .string (c75)) rfl rfl rfl rfl rfl (e_load1 tf6 (v := .string (c75)) rfl (k_row 8 (o := wz * 1) (us := [.string (c75)]) rfl (map_at (enc := fun s : ByteArray => Value.string s) hc76) (Nat.succ_pos _))) ?_
            refine g_val (v := Nx ((c75).size)) rfl rfl rfl rfl rfl (e_len_s (s := c75) rfl tf7) ?_
            refine g_val (v := Nx (((0 + sizes (I3.recs.take wz)) + 24) + ((c75).size))) rfl rfl rfl rfl rfl (e_add (a := (((0 + sizes (I3.recs.take wz)) + 24 : Nat) : Int)) (b := (((c75).size : Nat) : Int)) rfl rfl (i64n (by omega) (by omega))) ?_
            refine g_val (v := .bool (decide (((((0 + sizes (I3.recs.take wz)) + 24) + ((c75).size) : Nat) : Int) ≤ ((at_ % ((K2.a).length) : Nat) : Int)))) rfl rfl rfl rfl rfl (e_geq (a := ((at_ % ((K2.a).length) : Nat) : Int)) (b := ((((0 + sizes (I3.recs.take wz)) + 24) + ((c75).size) : Nat) : Int)) rfl rfl) ?_
            refine l_val (v := .bool (decide (((((0 + sizes (I3.recs.take wz)) + 24) + ((c75).size) : Nat) : Int) ≤ ((at_ % ((K2.a).length) : Nat) : Int)))) rfl rfl rfl (e_pick_t rfl) ?_
            refine l_nil ?_
            refine f_then ?_
            refine c_if (((((0 + sizes (I3.recs.take wz)) + 24) + ((c75).size) : Nat) : Int) ≤ ((at_ % ((K2.a).length) : Nat) : Int)) rfl (fun hc77 => ?_) (fun hc77 => ?_)
            ·
              refine c_skip ?_
              refine f_then ?_
              refine c_block ?_
              refine c_seq ?_
              refine c_region ?_
              refine l_val (v := Nx (0 + sizes (I3.recs.take wz))) rfl rfl rfl (e_move) ?_
              refine l_val (v := .pointer (some ⟨b7, 3, none⟩)) rfl rfl rfl (e_fieldPt (b := b7) (o := 0) rfl tf96) ?_
              refine l_val (v := .slice p5 (C4.recs).length c6) rfl rfl rfl (e_load1 tf97 (v := .slice p5 (C4.recs).length c6) rfl (k_pt 7 (cs := #[Nx (C4.epoch), Nx (C4.next), .string (C4.state), .slice p5 (C4.recs).length c6]) (vs := [.slice p5 (C4.recs).length c6]) rfl rfl)) ?_
              refine l_val (v := Nx (wz)) rfl rfl rfl (e_move) ?_
              refine l_val (v := .pointer (some ((ba p5).add (wz * 1)))) rfl rfl rfl (e_indexRow 8 (j := wz) (len := (C4.recs).length) (cap := c6) (p := p5) rfl rfl tf78 (by omega) (by omega) rfl) ?_
              refine l_val (v := .string (c75)) rfl rfl rfl (e_load1 tf6 (v := .string (c75)) rfl (k_row 8 (o := wz * 1) (us := [.string (c75)]) rfl (map_at (enc := fun s : ByteArray => Value.string s) hc76) (Nat.succ_pos _))) ?_
              refine l_val (v := Nx ((c75).size)) rfl rfl rfl (e_len_s (s := c75) rfl tf7) ?_
              refine l_val (v := Nx (24 + ((c75).size))) rfl rfl rfl (e_add (a := (24 : Int)) (b := (((c75).size : Nat) : Int)) rfl rfl (i64n (by omega) (by omega))) ?_
              refine l_val (v := Nx ((0 + sizes (I3.recs.take wz)) + (24 + ((c75).size)))) rfl rfl rfl (e_add (a := ((0 + sizes (I3.recs.take wz) : Nat) : Int)) (b := ((24 + ((c75).size) : Nat) : Int)) rfl rfl (i64n (by omega) (by omega))) ?_
              refine l_val (v := Nx ((0 + sizes (I3.recs.take wz)) + (24 + ((c75).size)))) rfl rfl rfl (e_assign) ?_
              refine l_nil ?_
              refine f_then ?_
              refine c_region ?_
              refine l_val (v := Nx (wz)) rfl rfl rfl (e_move) ?_
              refine l_val (v := Nx (wz + 1)) rfl rfl rfl (e_add (a := ((wz : Nat) : Int)) (b := (1 : Int)) rfl rfl (i64n (by omega) (by omega))) ?_
              refine l_val (v := Nx (wz + 1)) rfl rfl rfl (e_assign) ?_
              refine l_nil ?_
              refine f_block ?_
              exact f_cut ⟨wz + 1, ⟨⟨rfl, rfl, rfl, rfl, (congrArg (fun z : Nat => Nx z) (by omega)), rfl⟩, rfl, ⟨by omega, by omega⟩⟩, (show I3.recs.length - (wz + 1) < I3.recs.length - wz from by omega)⟩
            ·
              refine c_exit ?_
              refine f_then_exit ?_
              refine f_then_exit ?_
              refine f_exit ?_
              refine f_then ?_
              refine c_seq ?_
              have hwt : wz = tw := find_uniq (k := (at_ % ((K2.a).length)) - baseOf I3) hrw1 ht1 (by omega) (by omega) (by omega) (by omega)
              subst hwt
              refine c_any [⟨[], [], [0], [115], fun f => f 115 = .int .i64 (0)⟩, ⟨[0], [0], [], [116], fun f => f 116 = .bool true⟩, ⟨[0, 1], [1], [], [117], fun f => f 117 = .bool true⟩, ⟨[0, 1, 2], [2], [1], [118], fun f => f 118 = .pointer (some ⟨b62, 0, none⟩)⟩, ⟨[0, 1, 2, 3], [3, 2], [], [119], fun f => f 119 = Nx (ti.epoch)⟩, ⟨[0, 1, 2], [2], [2], [120], fun f => f 120 = .pointer (some ⟨b7, 0, none⟩)⟩, ⟨[0, 1, 2, 5], [5, 2], [], [121], fun f => f 121 = Nx (C4.epoch)⟩, ⟨[0, 1, 2, 3, 4, 5, 6], [4, 6, 2], [], [122], fun f => f 122 = .bool true⟩, ⟨[0, 1, 2, 3, 4, 5, 6, 7], [2, 7], [], [123], fun f => f 123 = .bool true⟩, ⟨[0, 1, 2, 3, 4, 5, 6, 7, 8], [8], [], [124], fun f => f 124 = .bool true⟩, ⟨[0, 1, 2, 3, 4, 5, 6, 7, 8, 9], [9], [1], [125], fun f => f 125 = .pointer (some ⟨b62, 4, none⟩)⟩, ⟨[0, 1, 2, 3, 4, 5, 6, 7, 8, 9, 10], [10, 9], [], [126], fun f => f 126 = Nx (ti.size)⟩, ⟨[0, 1, 2, 3, 4, 5, 6, 7, 8, 9], [9], [3], [127], fun f => f 127 = Nx (0 + sizes (I3.recs.take wz))⟩, ⟨[0, 1, 2, 3, 4, 5, 6, 7, 8, 9, 10, 11, 12], [11, 12, 9], [], [128], fun f => f 128 = .bool true⟩, ⟨[0, 1, 2, 3, 4, 5, 6, 7, 8, 9, 10, 11, 12, 13], [9, 13], [], [129], fun f => f 129 = .bool true⟩, ⟨[0, 1, 2, 3, 4, 5, 6, 7, 8, 9, 10, 11, 12, 13, 14], [14], [], [130], fun f => f 130 = .bool true⟩, ⟨[0, 1, 2, 3, 4, 5, 6, 7, 8, 9, 10, 11, 12, 13, 14, 15], [15], [1], [131], fun f => f 131 = .pointer (some ⟨b62, 2, none⟩)⟩, ⟨[0, 1, 2, 3, 4, 5, 6, 7, 8, 9, 10, 11, 12, 13, 14, 15, 16], [16, 15], [], [132], fun f => f 132 = .slice ps58 (ti.state).length cs60⟩, ⟨[0, 1, 2, 3, 4, 5, 6, 7, 8, 9, 10, 11, 12, 13, 14, 15, 16, 17], [17, 15], [], [133], fun f => f 133 = .string (str ti.state)⟩, ⟨[0, 1, 2, 3, 4, 5, 6, 7, 8, 9, 10, 11, 12, 13, 14, 15], [15], [2], [134], fun f => f 134 = .pointer (some ⟨b7, 2, none⟩)⟩, ⟨[0, 1, 2, 3, 4, 5, 6, 7, 8, 9, 10, 11, 12, 13, 14, 15, 19], [19, 15], [], [135], fun f => f 135 = .string (C4.state)⟩, ⟨[0, 1, 2, 3, 4, 5, 6, 7, 8, 9, 10, 11, 12, 13, 14, 15, 16, 17, 18, 19, 20], [18, 20, 15], [], [136], fun f => f 136 = .bool true⟩, ⟨[0, 1, 2, 3, 4, 5, 6, 7, 8, 9, 10, 11, 12, 13, 14, 15, 16, 17, 18, 19, 20, 21], [15, 21], [], [137], fun f => f 137 = .bool true⟩, ⟨[0, 1, 2, 3, 4, 5, 6, 7, 8, 9, 10, 11, 12, 13, 14, 15, 16, 17, 18, 19, 20, 21, 22], [22], [], [138], fun f => f 138 = .bool true⟩, ⟨[0, 1, 2, 3, 4, 5, 6, 7, 8, 9, 10, 11, 12, 13, 14, 15, 16, 17, 18, 19, 20, 21, 22, 23], [23], [1], [139], fun f => f 139 = .pointer (some ⟨b62, 3, none⟩)⟩, ⟨[0, 1, 2, 3, 4, 5, 6, 7, 8, 9, 10, 11, 12, 13, 14, 15, 16, 17, 18, 19, 20, 21, 22, 23, 24], [24, 23], [], [140], fun f => f 140 = .slice pr59 (ti.recs).length cr61⟩, ⟨[0, 1, 2, 3, 4, 5, 6, 7, 8, 9, 10, 11, 12, 13, 14, 15, 16, 17, 18, 19, 20, 21, 22, 23, 24, 25], [25, 23], [], [141], fun f => f 141 = .slice (sla (f 141)) (ti.recs.map str).length (slc (f 141))⟩, ⟨[0, 1, 2, 3, 4, 5, 6, 7, 8, 9, 10, 11, 12, 13, 14, 15, 16, 17, 18, 19, 20, 21, 22, 23], [23], [2], [142], fun f => f 142 = .pointer (some ⟨b7, 3, none⟩)⟩, ⟨[0, 1, 2, 3, 4, 5, 6, 7, 8, 9, 10, 11, 12, 13, 14, 15, 16, 17, 18, 19, 20, 21, 22, 23, 27], [27, 23], [], [143], fun f => f 143 = .slice p5 (C4.recs).length c6⟩, ⟨[0, 1, 2, 3, 4, 5, 6, 7, 8, 9, 10, 11, 12, 13, 14, 15, 16, 17, 18, 19, 20, 21, 22, 23], [23], [4], [144], fun f => f 144 = Nx (wz)⟩, ⟨[0, 1, 2, 3, 4, 5, 6, 7, 8, 9, 10, 11, 12, 13, 14, 15, 16, 17, 18, 19, 20, 21, 22, 23, 27, 28, 29], [28, 29, 23], [], [145], fun f => f 145 = .slice p5 (wz) c6⟩, ⟨[0, 1, 2, 3, 4, 5, 6, 7, 8, 9, 10, 11, 12, 13, 14, 15, 16, 17, 18, 19, 20, 21, 22, 23, 24, 25, 26, 27, 28, 29, 30], [26, 30, 23], [], [146], fun f => f 146 = .bool true⟩, ⟨[0, 1, 2, 3, 4, 5, 6, 7, 8, 9, 10, 11, 12, 13, 14, 15, 16, 17, 18, 19, 20, 21, 22, 23, 24, 25, 26, 27, 28, 29, 30, 31], [23, 31], [], [147], fun f => f 147 = .bool true⟩, ⟨[0, 1, 2, 3, 4, 5, 6, 7, 8, 9, 10, 11, 12, 13, 14, 15, 16, 17, 18, 19, 20, 21, 22, 23, 24, 25, 26, 27, 28, 29, 30, 31, 32], [32], [], [148], fun f => f 148 = .bool true⟩, ⟨[0, 1, 2, 3, 4, 5, 6, 7, 8, 9, 10, 11, 12, 13, 14, 15, 16, 17, 18, 19, 20, 21, 22, 23, 24, 25, 26, 27, 28, 29, 30, 31, 32, 33], [33], [1], [149], fun f => f 149 = .pointer (some ⟨b62, 1, none⟩)⟩, ⟨[0, 1, 2, 3, 4, 5, 6, 7, 8, 9, 10, 11, 12, 13, 14, 15, 16, 17, 18, 19, 20, 21, 22, 23, 24, 25, 26, 27, 28, 29, 30, 31, 32, 33, 34], [34, 33], [], [150], fun f => f 150 = Nx (ti.next)⟩, ⟨[0, 1, 2, 3, 4, 5, 6, 7, 8, 9, 10, 11, 12, 13, 14, 15, 16, 17, 18, 19, 20, 21, 22, 23, 24, 25, 26, 27, 28, 29, 30, 31, 32, 33], [33], [2], [151], fun f => f 151 = .pointer (some ⟨b7, 1, none⟩)⟩, ⟨[0, 1, 2, 3, 4, 5, 6, 7, 8, 9, 10, 11, 12, 13, 14, 15, 16, 17, 18, 19, 20, 21, 22, 23, 24, 25, 26, 27, 28, 29, 30, 31, 32, 33, 36], [36, 33], [], [152], fun f => f 152 = Nx (C4.next)⟩, ⟨[0, 1, 2, 3, 4, 5, 6, 7, 8, 9, 10, 11, 12, 13, 14, 15, 16, 17, 18, 19, 20, 21, 22, 23, 24, 25, 26, 27, 28, 29, 30, 31, 32, 33], [33], [2], [153], fun f => f 153 = .pointer (some ⟨b7, 3, none⟩)⟩, ⟨[0, 1, 2, 3, 4, 5, 6, 7, 8, 9, 10, 11, 12, 13, 14, 15, 16, 17, 18, 19, 20, 21, 22, 23, 24, 25, 26, 27, 28, 29, 30, 31, 32, 33, 38], [38, 33], [], [154], fun f => f 154 = .slice p5 (C4.recs).length c6⟩, ⟨[0, 1, 2, 3, 4, 5, 6, 7, 8, 9, 10, 11, 12, 13, 14, 15, 16, 17, 18, 19, 20, 21, 22, 23, 24, 25, 26, 27, 28, 29, 30, 31, 32, 33, 38, 39], [39, 33], [], [155], fun f => f 155 = Nx ((C4.recs).length)⟩, ⟨[0, 1, 2, 3, 4, 5, 6, 7, 8, 9, 10, 11, 12, 13, 14, 15, 16, 17, 18, 19, 20, 21, 22, 23, 24, 25, 26, 27, 28, 29, 30, 31, 32, 33, 36, 37, 38, 39, 40], [37, 40, 33], [], [156], fun f => f 156 = Ix (((C4.next : Nat) : Int) - (((C4.recs).length : Nat) : Int))⟩, ⟨[0, 1, 2, 3, 4, 5, 6, 7, 8, 9, 10, 11, 12, 13, 14, 15, 16, 17, 18, 19, 20, 21, 22, 23, 24, 25, 26, 27, 28, 29, 30, 31, 32, 33], [33], [4], [157], fun f => f 157 = Nx (wz)⟩, ⟨[0, 1, 2, 3, 4, 5, 6, 7, 8, 9, 10, 11, 12, 13, 14, 15, 16, 17, 18, 19, 20, 21, 22, 23, 24, 25, 26, 27, 28, 29, 30, 31, 32, 33, 36, 37, 38, 39, 40, 41, 42], [41, 42, 33], [], [158], fun f => f 158 = Ix ((((C4.next : Nat) : Int) - (((C4.recs).length : Nat) : Int)) + ((wz : Nat) : Int))⟩, ⟨[0, 1, 2, 3, 4, 5, 6, 7, 8, 9, 10, 11, 12, 13, 14, 15, 16, 17, 18, 19, 20, 21, 22, 23, 24, 25, 26, 27, 28, 29, 30, 31, 32, 33, 34, 35, 36, 37, 38, 39, 40, 41, 42, 43], [35, 43, 33], [], [159], fun f => f 159 = .bool true⟩, ⟨[0, 1, 2, 3, 4, 5, 6, 7, 8, 9, 10, 11, 12, 13, 14, 15, 16, 17, 18, 19, 20, 21, 22, 23, 24, 25, 26, 27, 28, 29, 30, 31, 32, 33, 34, 35, 36, 37, 38, 39, 40, 41, 42, 43, 44], [33, 44], [], [160], fun f => f 160 = .bool true⟩, ⟨[0, 1, 2, 3, 4, 5, 6, 7, 8, 9, 10, 11, 12, 13, 14, 15, 16, 17, 18, 19, 20, 21, 22, 23, 24, 25, 26, 27, 28, 29, 30, 31, 32, 33, 34, 35, 36, 37, 38, 39, 40, 41, 42, 43, 44, 45], [45], [], [161], fun f => f 161 = .bool true⟩, ⟨[0, 1, 2, 3, 4, 5, 6, 7, 8, 9, 10, 11, 12, 13, 14, 15, 16, 17, 18, 19, 20, 21, 22, 23, 24, 25, 26, 27, 28, 29, 30, 31, 32, 33, 34, 35, 36, 37, 38, 39, 40, 41, 42, 43, 44, 45, 46], [46], [], [162], fun f => f 162 = .bool true⟩, ⟨[0, 1, 2, 3, 4, 5, 6, 7, 8, 9, 10, 11, 12, 13, 14, 15, 16, 17, 18, 19, 20, 21, 22, 23, 24, 25, 26, 27, 28, 29, 30, 31, 32, 33, 34, 35, 36, 37, 38, 39, 40, 41, 42, 43, 44, 45, 46, 47], [46, 47], [], [163], fun f => f 163 = .bool true⟩, ⟨[0, 1, 2, 3, 4, 5, 6, 7, 8, 9, 10, 11, 12, 13, 14, 15, 16, 17, 18, 19, 20, 21, 22, 23, 24, 25, 26, 27, 28, 29, 30, 31, 32, 33, 34, 35, 36, 37, 38, 39, 40, 41, 42, 43, 44, 45, 46, 47, 48], [48], [], [6], fun f => f 6 = .bool true⟩] [⟨none, none, [4, 11, 17, 25, 35], [], fun _ => pt b62 (.cells #[Nx (ti.epoch), Nx (ti.next), .slice ps58 (ti.state).length cs60, .slice pr59 (ti.recs).length cr61, Nx (ti.size)] 36)⟩, ⟨none, none, [18], [], fun _ => row (.slice ps58 (ti.state).length cs60) 5 1 ((ti.state).length) (BX ti.state)⟩, ⟨none, none, [26], [], fun _ => recsR 30 pr59 cr61 ti.recs⟩, ⟨none, none, [], [], fun _ => pt S1 (.cells #[.slice pH8 (K2.head).length cH11, .slice pA9 ((K2.a.set (at_ % ((K2.a).length)) (c53 ^^^ (max by_ (1 : UInt8))))).length cA12, .slice pB10 (K2.b).length cB13, Ix (K2.power)] 32)⟩, ⟨none, none, [], [], fun _ => row (.slice pH8 (K2.head).length cH11) 5 1 ((K2.head).length) (BX K2.head)⟩, ⟨none, none, [], [], fun _ => row (.slice pA9 ((K2.a.set (at_ % ((K2.a).length)) (c53 ^^^ (max by_ (1 : UInt8))))).length cA12) 5 1 (((K2.a.set (at_ % ((K2.a).length)) (c53 ^^^ (max by_ (1 : UInt8))))).length) (BX (K2.a.set (at_ % ((K2.a).length)) (c53 ^^^ (max by_ (1 : UInt8)))))⟩, ⟨none, none, [], [], fun _ => row (.slice pB10 (K2.b).length cB13) 5 1 ((K2.b).length) (BX K2.b)⟩, ⟨none, none, [6, 20, 28, 37, 39], [], fun _ => pt b7 (.cells #[Nx (C4.epoch), Nx (C4.next), .string (C4.state), .slice p5 (C4.recs).length c6] 27)⟩, ⟨none, none, [31], [], fun _ => row (.slice p5 (C4.recs).length c6) 9 1 ((C4.recs).length) (C4.recs.map (fun s : ByteArray => Value.string s))⟩, ⟨(some 26), none, [31], [141], fun f => row (.slice (sla (f 141)) (ti.recs.map str).length (slc (f 141))) 9 1 ((ti.recs.map str).length) ((ti.recs.map str).map (fun s : ByteArray => Value.string s))⟩] [(13, .int .i64 (0)), (12, .pointer (some ⟨b62, 0, none⟩)), (8, .pointer (some ⟨b7, 0, none⟩)), (14, Nx (0 + sizes (I3.recs.take wz))), (15, Nx (wz))] [] [] (by kernel_rfl) (by kernel_rfl) (by kernel_rfl) (by kernel_rfl) rfl ⟨rfl, rfl, rfl, rfl, rfl, trivial⟩ ⟨?_, ?_, ?_, ?_, ?_, ?_, ?_, ?_, ?_, ?_, ?_, ?_, ?_, ?_, ?_, ?_, ?_, ?_, ?_, ?_, ?_, ?_, ?_, ?_, ?_, ?_, ?_, ?_, ?_, ?_, ?_, ?_, ?_, ?_, ?_, ?_, ?_, ?_, ?_, ?_, ?_, ?_, ?_, ?_, ?_, ?_, ?_, ?_, ?_, ?_, trivial⟩ ?_
              · rintro f M - ⟨i0, -⟩
                have hs13 : f 13 = .int .i64 (0) := i0
                refine ob_start (L' := M) (by rfl) (up_cons rfl hs13) ?_
                refine l_val (v := .int .i64 (0)) rfl rfl rfl (e_move) ?_
                refine l_nil ?_
                exact f_owes_d (up_cons rfl hs13) rfl (List.Perm.refl _)
              · rintro f M ⟨k0, -⟩ -
                have hs115 : f 115 = .int .i64 (0) := k0
                refine ob_start (L' := M) (by rfl) (up_cons rfl hs115) ?_
                refine l_val (v := .bool true) rfl rfl rfl (e_eql (a := (0 : Int)) (b := (0 : Int)) rfl rfl) ?_
                refine l_nil ?_
                exact f_owes_d (up_cons rfl hs115) rfl (List.Perm.refl _)
              · rintro f M ⟨k0, -⟩ -
                have hs116 : f 116 = .bool true := k0
                refine ob_start (L' := M) (by rfl) (up_cons rfl hs116) ?_
                refine l_val (v := .bool true) rfl rfl rfl (e_move) ?_
                refine l_nil ?_
                exact f_owes_d (up_cons rfl hs116) rfl (List.Perm.refl _)
              · rintro f M ⟨k0, -⟩ ⟨i0, -⟩
                have hs12 : f 12 = .pointer (some ⟨b62, 0, none⟩) := i0
                have hs117 : f 117 = .bool true := k0
                refine ob_start (L' := M) (by rfl) (up_cons (up_cons rfl hs12) hs117) ?_
                refine g_val (v := .pointer (some ⟨b62, 0, none⟩)) rfl rfl rfl rfl rfl (e_fieldPt (b := b62) (o := 0) rfl tf48) ?_
                refine l_nil ?_
                exact f_owes_d (up_cons (up_cons rfl hs12) hs117) rfl (List.Perm.refl _)
              · rintro f M ⟨k0, k1, -⟩ -
                have hs118 : f 118 = .pointer (some ⟨b62, 0, none⟩) := k0
                have hs117 : f 117 = .bool true := k1
                refine ob_start (L' := pt b62 (.cells #[Nx (ti.epoch), Nx (ti.next), .slice ps58 (ti.state).length cs60, .slice pr59 (ti.recs).length cr61, Nx (ti.size)] 36) :: M) (by rfl) (up_cons (up_cons rfl hs118) hs117) ?_
                refine g_val (v := Nx (ti.epoch)) rfl rfl rfl rfl rfl (e_load1 tf25 (v := Nx (ti.epoch)) rfl (k_pt 0 (cs := #[Nx (ti.epoch), Nx (ti.next), .slice ps58 (ti.state).length cs60, .slice pr59 (ti.recs).length cr61, Nx (ti.size)]) (vs := [Nx (ti.epoch)]) rfl rfl)) ?_
                refine l_nil ?_
                exact f_owes_d (up_cons (up_cons rfl hs118) hs117) rfl (perm_front 0 rfl)
              · rintro f M ⟨k0, -⟩ ⟨i0, -⟩
                have hs8 : f 8 = .pointer (some ⟨b7, 0, none⟩) := i0
                have hs117 : f 117 = .bool true := k0
                refine ob_start (L' := M) (by rfl) (up_cons (up_cons rfl hs8) hs117) ?_
                refine g_val (v := .pointer (some ⟨b7, 0, none⟩)) rfl rfl rfl rfl rfl (e_fieldPt (b := b7) (o := 0) rfl tf89) ?_
                refine l_nil ?_
                exact f_owes_d (up_cons (up_cons rfl hs8) hs117) rfl (List.Perm.refl _)
              · rintro f M ⟨k0, k1, -⟩ -
                have hs120 : f 120 = .pointer (some ⟨b7, 0, none⟩) := k0
                have hs117 : f 117 = .bool true := k1
                refine ob_start (L' := pt b7 (.cells #[Nx (C4.epoch), Nx (C4.next), .string (C4.state), .slice p5 (C4.recs).length c6] 27) :: M) (by rfl) (up_cons (up_cons rfl hs120) hs117) ?_
                refine g_val (v := Nx (C4.epoch)) rfl rfl rfl rfl rfl (e_load1 tf25 (v := Nx (C4.epoch)) rfl (k_pt 0 (cs := #[Nx (C4.epoch), Nx (C4.next), .string (C4.state), .slice p5 (C4.recs).length c6]) (vs := [Nx (C4.epoch)]) rfl rfl)) ?_
                refine l_nil ?_
                exact f_owes_d (up_cons (up_cons rfl hs120) hs117) rfl (perm_front 0 rfl)
              · rintro f M ⟨k0, k1, k2, -⟩ -
                have hs119 : f 119 = Nx (ti.epoch) := k0
                have hs121 : f 121 = Nx (C4.epoch) := k1
                have hs117 : f 117 = .bool true := k2
                refine ob_start (L' := M) (by rfl) (up_cons (up_cons (up_cons rfl hs119) hs121) hs117) ?_
                refine g_val (v := .bool true) rfl rfl rfl rfl rfl ((ev_t (by omega) (e_eql (a := ((ti.epoch : Nat) : Int)) (b := ((C4.epoch : Nat) : Int)) rfl rfl))) ?_
                refine l_nil ?_
                exact f_owes_d (up_cons (up_cons (up_cons rfl hs119) hs121) hs117) rfl (List.Perm.refl _)
              · rintro f M ⟨k0, k1, -⟩ -
                have hs117 : f 117 = .bool true := k0
                have hs122 : f 122 = .bool true := k1
                refine ob_start (L' := M) (by rfl) (up_cons (up_cons rfl hs117) hs122) ?_
                refine l_val (v := .bool true) rfl rfl rfl (e_pick_t rfl) ?_
                refine l_nil ?_
                exact f_owes_d (up_cons (up_cons rfl hs117) hs122) rfl (List.Perm.refl _)
              · rintro f M ⟨k0, -⟩ -
                have hs123 : f 123 = .bool true := k0
                refine ob_start (L' := M) (by rfl) (up_cons rfl hs123) ?_
                refine l_val (v := .bool true) rfl rfl rfl (e_move) ?_
                refine l_nil ?_
                exact f_owes_d (up_cons rfl hs123) rfl (List.Perm.refl _)
              · rintro f M ⟨k0, -⟩ ⟨i0, -⟩
                have hs12 : f 12 = .pointer (some ⟨b62, 0, none⟩) := i0
                have hs124 : f 124 = .bool true := k0
                refine ob_start (L' := M) (by rfl) (up_cons (up_cons rfl hs12) hs124) ?_
                refine g_val (v := .pointer (some ⟨b62, 4, none⟩)) rfl rfl rfl rfl rfl (e_fieldPt (b := b62) (o := 0) rfl tf50) ?_
                refine l_nil ?_
                exact f_owes_d (up_cons (up_cons rfl hs12) hs124) rfl (List.Perm.refl _)
              · rintro f M ⟨k0, k1, -⟩ -
                have hs125 : f 125 = .pointer (some ⟨b62, 4, none⟩) := k0
                have hs124 : f 124 = .bool true := k1
                refine ob_start (L' := pt b62 (.cells #[Nx (ti.epoch), Nx (ti.next), .slice ps58 (ti.state).length cs60, .slice pr59 (ti.recs).length cr61, Nx (ti.size)] 36) :: M) (by rfl) (up_cons (up_cons rfl hs125) hs124) ?_
                refine g_val (v := Nx (ti.size)) rfl rfl rfl rfl rfl (e_load1 tf25 (v := Nx (ti.size)) rfl (k_pt 0 (cs := #[Nx (ti.epoch), Nx (ti.next), .slice ps58 (ti.state).length cs60, .slice pr59 (ti.recs).length cr61, Nx (ti.size)]) (vs := [Nx (ti.size)]) rfl rfl)) ?_
                refine l_nil ?_
                exact f_owes_d (up_cons (up_cons rfl hs125) hs124) rfl (perm_front 0 rfl)
              · rintro f M ⟨k0, -⟩ ⟨i0, -⟩
                have hs14 : f 14 = Nx (0 + sizes (I3.recs.take wz)) := i0
                have hs124 : f 124 = .bool true := k0
                refine ob_start (L' := M) (by rfl) (up_cons (up_cons rfl hs14) hs124) ?_
                refine g_val (v := Nx (0 + sizes (I3.recs.take wz))) rfl rfl rfl rfl rfl (e_move) ?_
                refine l_nil ?_
                exact f_owes_d (up_cons (up_cons rfl hs14) hs124) rfl (List.Perm.refl _)
              · rintro f M ⟨k0, k1, k2, -⟩ -
                have hs126 : f 126 = Nx (ti.size) := k0
                have hs127 : f 127 = Nx (0 + sizes (I3.recs.take wz)) := k1
                have hs124 : f 124 = .bool true := k2
                refine ob_start (L' := M) (by rfl) (up_cons (up_cons (up_cons rfl hs126) hs127) hs124) ?_
                refine g_val (v := .bool true) rfl rfl rfl rfl rfl ((ev_t (by omega) (e_eql (a := ((ti.size : Nat) : Int)) (b := ((0 + sizes (I3.recs.take wz) : Nat) : Int)) rfl rfl))) ?_
                refine l_nil ?_
                exact f_owes_d (up_cons (up_cons (up_cons rfl hs126) hs127) hs124) rfl (List.Perm.refl _)
              · rintro f M ⟨k0, k1, -⟩ -
                have hs124 : f 124 = .bool true := k0
                have hs128 : f 128 = .bool true := k1
                refine ob_start (L' := M) (by rfl) (up_cons (up_cons rfl hs124) hs128) ?_
                refine l_val (v := .bool true) rfl rfl rfl (e_pick_t rfl) ?_
                refine l_nil ?_
                exact f_owes_d (up_cons (up_cons rfl hs124) hs128) rfl (List.Perm.refl _)
              · rintro f M ⟨k0, -⟩ -
                have hs129 : f 129 = .bool true := k0
                refine ob_start (L' := M) (by rfl) (up_cons rfl hs129) ?_
                refine l_val (v := .bool true) rfl rfl rfl (e_move) ?_
                refine l_nil ?_
                exact f_owes_d (up_cons rfl hs129) rfl (List.Perm.refl _)
              · rintro f M ⟨k0, -⟩ ⟨i0, -⟩
                have hs12 : f 12 = .pointer (some ⟨b62, 0, none⟩) := i0
                have hs130 : f 130 = .bool true := k0
                refine ob_start (L' := M) (by rfl) (up_cons (up_cons rfl hs12) hs130) ?_
                refine g_val (v := .pointer (some ⟨b62, 2, none⟩)) rfl rfl rfl rfl rfl (e_fieldPt (b := b62) (o := 0) rfl tf63) ?_
                refine l_nil ?_
                exact f_owes_d (up_cons (up_cons rfl hs12) hs130) rfl (List.Perm.refl _)
              · rintro f M ⟨k0, k1, -⟩ -
                have hs131 : f 131 = .pointer (some ⟨b62, 2, none⟩) := k0
                have hs130 : f 130 = .bool true := k1
                refine ob_start (L' := pt b62 (.cells #[Nx (ti.epoch), Nx (ti.next), .slice ps58 (ti.state).length cs60, .slice pr59 (ti.recs).length cr61, Nx (ti.size)] 36) :: M) (by rfl) (up_cons (up_cons rfl hs131) hs130) ?_
                refine g_val (v := .slice ps58 (ti.state).length cs60) rfl rfl rfl rfl rfl (e_load1 tf21 (v := .slice ps58 (ti.state).length cs60) rfl (k_pt 0 (cs := #[Nx (ti.epoch), Nx (ti.next), .slice ps58 (ti.state).length cs60, .slice pr59 (ti.recs).length cr61, Nx (ti.size)]) (vs := [.slice ps58 (ti.state).length cs60]) rfl rfl)) ?_
                refine l_nil ?_
                exact f_owes_d (up_cons (up_cons rfl hs131) hs130) rfl (perm_front 0 rfl)
              · rintro f M ⟨k0, k1, -⟩ -
                have hs132 : f 132 = .slice ps58 (ti.state).length cs60 := k0
                have hs130 : f 130 = .bool true := k1
                refine ob_start (L' := row (.slice ps58 (ti.state).length cs60) 5 1 ((ti.state).length) (BX ti.state) :: M) (by rfl) (up_cons (up_cons rfl hs132) hs130) ?_
                refine g_val (v := .string (str ti.state)) rfl rfl rfl rfl rfl (e_bytesStr (a := ps58) (bs := ti.state) (m := (ti.state).length) (c := cs60) rfl (by first | rfl | simp) tf11 tf8 tf7 (k_rowE 0 rfl)) ?_
                refine l_nil ?_
                exact f_owes_d (up_cons (up_cons rfl hs132) hs130) rfl (perm_front 0 rfl)
              · rintro f M ⟨k0, -⟩ ⟨i0, -⟩
                have hs8 : f 8 = .pointer (some ⟨b7, 0, none⟩) := i0
                have hs130 : f 130 = .bool true := k0
                refine ob_start (L' := M) (by rfl) (up_cons (up_cons rfl hs8) hs130) ?_
                refine g_val (v := .pointer (some ⟨b7, 2, none⟩)) rfl rfl rfl rfl rfl (e_fieldPt (b := b7) (o := 0) rfl tf93) ?_
                refine l_nil ?_
                exact f_owes_d (up_cons (up_cons rfl hs8) hs130) rfl (List.Perm.refl _)
              · rintro f M ⟨k0, k1, -⟩ -
                have hs134 : f 134 = .pointer (some ⟨b7, 2, none⟩) := k0
                have hs130 : f 130 = .bool true := k1
                refine ob_start (L' := pt b7 (.cells #[Nx (C4.epoch), Nx (C4.next), .string (C4.state), .slice p5 (C4.recs).length c6] 27) :: M) (by rfl) (up_cons (up_cons rfl hs134) hs130) ?_
                refine g_val (v := .string (C4.state)) rfl rfl rfl rfl rfl (e_load1 tf6 (v := .string (C4.state)) rfl (k_pt 0 (cs := #[Nx (C4.epoch), Nx (C4.next), .string (C4.state), .slice p5 (C4.recs).length c6]) (vs := [.string (C4.state)]) rfl rfl)) ?_
                refine l_nil ?_
                exact f_owes_d (up_cons (up_cons rfl hs134) hs130) rfl (perm_front 0 rfl)
              · rintro f M ⟨k0, k1, k2, -⟩ -
                have hs133 : f 133 = .string (str ti.state) := k0
                have hs135 : f 135 = .string (C4.state) := k1
                have hs130 : f 130 = .bool true := k2
                refine ob_start (L' := M) (by rfl) (up_cons (up_cons (up_cons rfl hs133) hs135) hs130) ?_
                refine g_val (v := .bool true) rfl rfl rfl rfl rfl ((ev_t (by rw [htst]; exact hC.2.2.1) (e_eql_s (a := (str ti.state)) (b := C4.state) rfl rfl))) ?_
                refine l_nil ?_
                exact f_owes_d (up_cons (up_cons (up_cons rfl hs133) hs135) hs130) rfl (List.Perm.refl _)
              · rintro f M ⟨k0, k1, -⟩ -
                have hs130 : f 130 = .bool true := k0
                have hs136 : f 136 = .bool true := k1
                refine ob_start (L' := M) (by rfl) (up_cons (up_cons rfl hs130) hs136) ?_
                refine l_val (v := .bool true) rfl rfl rfl (e_pick_t rfl) ?_
                refine l_nil ?_
                exact f_owes_d (up_cons (up_cons rfl hs130) hs136) rfl (List.Perm.refl _)
              · rintro f M ⟨k0, -⟩ -
                have hs137 : f 137 = .bool true := k0
                refine ob_start (L' := M) (by rfl) (up_cons rfl hs137) ?_
                refine l_val (v := .bool true) rfl rfl rfl (e_move) ?_
                refine l_nil ?_
                exact f_owes_d (up_cons rfl hs137) rfl (List.Perm.refl _)
              · rintro f M ⟨k0, -⟩ ⟨i0, -⟩
                have hs12 : f 12 = .pointer (some ⟨b62, 0, none⟩) := i0
                have hs138 : f 138 = .bool true := k0
                refine ob_start (L' := M) (by rfl) (up_cons (up_cons rfl hs12) hs138) ?_
                refine g_val (v := .pointer (some ⟨b62, 3, none⟩)) rfl rfl rfl rfl rfl (e_fieldPt (b := b62) (o := 0) rfl tf64) ?_
                refine l_nil ?_
                exact f_owes_d (up_cons (up_cons rfl hs12) hs138) rfl (List.Perm.refl _)
              · rintro f M ⟨k0, k1, -⟩ -
                have hs139 : f 139 = .pointer (some ⟨b62, 3, none⟩) := k0
                have hs138 : f 138 = .bool true := k1
                refine ob_start (L' := pt b62 (.cells #[Nx (ti.epoch), Nx (ti.next), .slice ps58 (ti.state).length cs60, .slice pr59 (ti.recs).length cr61, Nx (ti.size)] 36) :: M) (by rfl) (up_cons (up_cons rfl hs139) hs138) ?_
                refine g_val (v := .slice pr59 (ti.recs).length cr61) rfl rfl rfl rfl rfl (e_load1 tf65 (v := .slice pr59 (ti.recs).length cr61) rfl (k_pt 0 (cs := #[Nx (ti.epoch), Nx (ti.next), .slice ps58 (ti.state).length cs60, .slice pr59 (ti.recs).length cr61, Nx (ti.size)]) (vs := [.slice pr59 (ti.recs).length cr61]) rfl rfl)) ?_
                refine l_nil ?_
                exact f_owes_d (up_cons (up_cons rfl hs139) hs138) rfl (perm_front 0 rfl)
              · rintro f M ⟨k0, k1, -⟩ -
                have hs140 : f 140 = .slice pr59 (ti.recs).length cr61 := k0
                have hs138 : f 138 = .bool true := k1
                refine ob_start (L' := recsR 30 pr59 cr61 ti.recs :: M) (by rfl) (up_cons (up_cons rfl hs140) hs138) ?_
                refine g_call rfl rfl rfl rfl rfl (cl_value (fst := []) (cap := []) (vs := [.slice pr59 (ti.recs).length cr61]) (all := [.slice pr59 (ti.recs).length cr61]) tf95 rfl rfl rfl) ?_
                intro w hw
                obtain ⟨β1, sb, kn, hw1, back⟩ := St.frame_all hw
                refine (text_ok β1 w hw1 ti.recs _ (by omega) (kn _ (Knows.of_res 0 rfl (Sl.mono BsR _ _) fun _ h => recs_sl h))).mono ?_
                rintro e w' ⟨p80, c81, rfl, hw'⟩
                refine ⟨_, rfl, _, back _ _ hw', ?_⟩
                clear hw hw1 hw' back kn sb
                refine l_nil ?_
                exact f_owes_d (up_cons (up_cons rfl hs140) hs138) rfl ((perm_front 0 rfl).trans (perm_front 1 rfl))
              · rintro f M ⟨k0, -⟩ ⟨i0, -⟩
                have hs8 : f 8 = .pointer (some ⟨b7, 0, none⟩) := i0
                have hs138 : f 138 = .bool true := k0
                refine ob_start (L' := M) (by rfl) (up_cons (up_cons rfl hs8) hs138) ?_
                refine g_val (v := .pointer (some ⟨b7, 3, none⟩)) rfl rfl rfl rfl rfl (e_fieldPt (b := b7) (o := 0) rfl tf96) ?_
                refine l_nil ?_
                exact f_owes_d (up_cons (up_cons rfl hs8) hs138) rfl (List.Perm.refl _)
              · rintro f M ⟨k0, k1, -⟩ -
                have hs142 : f 142 = .pointer (some ⟨b7, 3, none⟩) := k0
                have hs138 : f 138 = .bool true := k1
                refine ob_start (L' := pt b7 (.cells #[Nx (C4.epoch), Nx (C4.next), .string (C4.state), .slice p5 (C4.recs).length c6] 27) :: M) (by rfl) (up_cons (up_cons rfl hs142) hs138) ?_
                refine g_val (v := .slice p5 (C4.recs).length c6) rfl rfl rfl rfl rfl (e_load1 tf97 (v := .slice p5 (C4.recs).length c6) rfl (k_pt 0 (cs := #[Nx (C4.epoch), Nx (C4.next), .string (C4.state), .slice p5 (C4.recs).length c6]) (vs := [.slice p5 (C4.recs).length c6]) rfl rfl)) ?_
                refine l_nil ?_
                exact f_owes_d (up_cons (up_cons rfl hs142) hs138) rfl (perm_front 0 rfl)
              · rintro f M ⟨k0, -⟩ ⟨i0, -⟩
                have hs15 : f 15 = Nx (wz) := i0
                have hs138 : f 138 = .bool true := k0
                refine ob_start (L' := M) (by rfl) (up_cons (up_cons rfl hs15) hs138) ?_
                refine g_val (v := Nx (wz)) rfl rfl rfl rfl rfl (e_move) ?_
                refine l_nil ?_
                exact f_owes_d (up_cons (up_cons rfl hs15) hs138) rfl (List.Perm.refl _)
              · rintro f M ⟨k0, k1, k2, -⟩ -
                have hs143 : f 143 = .slice p5 (C4.recs).length c6 := k0
                have hs144 : f 144 = Nx (wz) := k1
                have hs138 : f 138 = .bool true := k2
                refine ob_start (L' := M) (by rfl) (up_cons (up_cons (up_cons rfl hs143) hs144) hs138) ?_
                refine g_val (v := .slice p5 (wz) c6) rfl rfl rfl rfl rfl (e_slice_hi (a := p5) (len := (C4.recs).length) (cap := c6) (h := wz) tf78 rfl rfl (by omega)) ?_
                refine l_nil ?_
                exact f_owes_d (up_cons (up_cons (up_cons rfl hs143) hs144) hs138) rfl (List.Perm.refl _)
              · rintro f M ⟨k0, k1, k2, -⟩ -
                have hs141 : f 141 = .slice (sla (f 141)) (ti.recs.map str).length (slc (f 141)) := k0
                have hs145 : f 145 = .slice p5 (wz) c6 := k1
                have hs138 : f 138 = .bool true := k2
                refine ob_start (L' := row (.slice p5 (C4.recs).length c6) 9 1 ((C4.recs).length) (C4.recs.map (fun s : ByteArray => Value.string s)) :: row (.slice (sla (f 141)) (ti.recs.map str).length (slc (f 141))) 9 1 ((ti.recs.map str).length) ((ti.recs.map str).map (fun s : ByteArray => Value.string s)) :: M) (by rfl) (up_cons (up_cons (up_cons rfl hs141) hs145) hs138) ?_
                refine g_call rfl rfl rfl rfl rfl (cl_value (fst := []) (cap := []) (vs := [.slice (sla (f 141)) (ti.recs.map str).length (slc (f 141)), .slice p5 (wz) c6]) (all := [.slice (sla (f 141)) (ti.recs.map str).length (slc (f 141)), .slice p5 (wz) c6]) tf98 rfl rfl rfl) ?_
                intro w hw
                obtain ⟨β1, sb, kn, hw1, back⟩ := St.frame_all hw
                refine (samet_ok β1 w hw1 (ti.recs.map str) (C4.recs.take wz) _ _ (kn _ (Knows.of_res 1 rfl (Sl.mono StrR _ _) fun _ h => row_str h)) (kn _ (Knows.of_res 0 rfl (Sl.mono StrR _ _) fun _ h => row_str_take h (by omega)))).mono ?_
                rintro e w' ⟨rfl, hw'⟩
                refine ⟨_, rfl, _, back _ _ hw', ?_⟩
                clear hw hw1 hw' back kn sb
                refine l_nil ?_
                exact f_owes_d (up_cons (up_cons (up_cons rfl hs141) hs145) hs138) (congrArg Value.bool (decide_eq_true (by rw [htr, List.map_take, hC.2.2.2]))) ((perm_front 1 rfl).trans (perm_front 1 rfl))
              · rintro f M ⟨k0, k1, -⟩ -
                have hs138 : f 138 = .bool true := k0
                have hs146 : f 146 = .bool true := k1
                refine ob_start (L' := M) (by rfl) (up_cons (up_cons rfl hs138) hs146) ?_
                refine l_val (v := .bool true) rfl rfl rfl (e_pick_t rfl) ?_
                refine l_nil ?_
                exact f_owes_d (up_cons (up_cons rfl hs138) hs146) rfl (List.Perm.refl _)
              · rintro f M ⟨k0, -⟩ -
                have hs147 : f 147 = .bool true := k0
                refine ob_start (L' := M) (by rfl) (up_cons rfl hs147) ?_
                refine l_val (v := .bool true) rfl rfl rfl (e_move) ?_
                refine l_nil ?_
                exact f_owes_d (up_cons rfl hs147) rfl (List.Perm.refl _)
              · rintro f M ⟨k0, -⟩ ⟨i0, -⟩
                have hs12 : f 12 = .pointer (some ⟨b62, 0, none⟩) := i0
                have hs148 : f 148 = .bool true := k0
                refine ob_start (L' := M) (by rfl) (up_cons (up_cons rfl hs12) hs148) ?_
                refine g_val (v := .pointer (some ⟨b62, 1, none⟩)) rfl rfl rfl rfl rfl (e_fieldPt (b := b62) (o := 0) rfl tf53) ?_
                refine l_nil ?_
                exact f_owes_d (up_cons (up_cons rfl hs12) hs148) rfl (List.Perm.refl _)
              · rintro f M ⟨k0, k1, -⟩ -
                have hs149 : f 149 = .pointer (some ⟨b62, 1, none⟩) := k0
                have hs148 : f 148 = .bool true := k1
                refine ob_start (L' := pt b62 (.cells #[Nx (ti.epoch), Nx (ti.next), .slice ps58 (ti.state).length cs60, .slice pr59 (ti.recs).length cr61, Nx (ti.size)] 36) :: M) (by rfl) (up_cons (up_cons rfl hs149) hs148) ?_
                refine g_val (v := Nx (ti.next)) rfl rfl rfl rfl rfl (e_load1 tf25 (v := Nx (ti.next)) rfl (k_pt 0 (cs := #[Nx (ti.epoch), Nx (ti.next), .slice ps58 (ti.state).length cs60, .slice pr59 (ti.recs).length cr61, Nx (ti.size)]) (vs := [Nx (ti.next)]) rfl rfl)) ?_
                refine l_nil ?_
                exact f_owes_d (up_cons (up_cons rfl hs149) hs148) rfl (perm_front 0 rfl)
              · rintro f M ⟨k0, -⟩ ⟨i0, -⟩
                have hs8 : f 8 = .pointer (some ⟨b7, 0, none⟩) := i0
                have hs148 : f 148 = .bool true := k0
                refine ob_start (L' := M) (by rfl) (up_cons (up_cons rfl hs8) hs148) ?_
                refine g_val (v := .pointer (some ⟨b7, 1, none⟩)) rfl rfl rfl rfl rfl (e_fieldPt (b := b7) (o := 0) rfl tf91) ?_
                refine l_nil ?_
                exact f_owes_d (up_cons (up_cons rfl hs8) hs148) rfl (List.Perm.refl _)
              · rintro f M ⟨k0, k1, -⟩ -
                have hs151 : f 151 = .pointer (some ⟨b7, 1, none⟩) := k0
                have hs148 : f 148 = .bool true := k1
                refine ob_start (L' := pt b7 (.cells #[Nx (C4.epoch), Nx (C4.next), .string (C4.state), .slice p5 (C4.recs).length c6] 27) :: M) (by rfl) (up_cons (up_cons rfl hs151) hs148) ?_
                refine g_val (v := Nx (C4.next)) rfl rfl rfl rfl rfl (e_load1 tf25 (v := Nx (C4.next)) rfl (k_pt 0 (cs := #[Nx (C4.epoch), Nx (C4.next), .string (C4.state), .slice p5 (C4.recs).length c6]) (vs := [Nx (C4.next)]) rfl rfl)) ?_
                refine l_nil ?_
                exact f_owes_d (up_cons (up_cons rfl hs151) hs148) rfl (perm_front 0 rfl)
              · rintro f M ⟨k0, -⟩ ⟨i0, -⟩
                have hs8 : f 8 = .pointer (some ⟨b7, 0, none⟩) := i0
                have hs148 : f 148 = .bool true := k0
                refine ob_start (L' := M) (by rfl) (up_cons (up_cons rfl hs8) hs148) ?_
                refine g_val (v := .pointer (some ⟨b7, 3, none⟩)) rfl rfl rfl rfl rfl (e_fieldPt (b := b7) (o := 0) rfl tf96) ?_
                refine l_nil ?_
                exact f_owes_d (up_cons (up_cons rfl hs8) hs148) rfl (List.Perm.refl _)
              · rintro f M ⟨k0, k1, -⟩ -
                have hs153 : f 153 = .pointer (some ⟨b7, 3, none⟩) := k0
                have hs148 : f 148 = .bool true := k1
                refine ob_start (L' := pt b7 (.cells #[Nx (C4.epoch), Nx (C4.next), .string (C4.state), .slice p5 (C4.recs).length c6] 27) :: M) (by rfl) (up_cons (up_cons rfl hs153) hs148) ?_
                refine g_val (v := .slice p5 (C4.recs).length c6) rfl rfl rfl rfl rfl (e_load1 tf97 (v := .slice p5 (C4.recs).length c6) rfl (k_pt 0 (cs := #[Nx (C4.epoch), Nx (C4.next), .string (C4.state), .slice p5 (C4.recs).length c6]) (vs := [.slice p5 (C4.recs).length c6]) rfl rfl)) ?_
                refine l_nil ?_
                exact f_owes_d (up_cons (up_cons rfl hs153) hs148) rfl (perm_front 0 rfl)
              · rintro f M ⟨k0, k1, -⟩ -
                have hs154 : f 154 = .slice p5 (C4.recs).length c6 := k0
                have hs148 : f 148 = .bool true := k1
                refine ob_start (L' := M) (by rfl) (up_cons (up_cons rfl hs154) hs148) ?_
                refine g_val (v := Nx ((C4.recs).length)) rfl rfl rfl rfl rfl (e_len (a := p5) (n := (C4.recs).length) (c := c6) rfl tf81) ?_
                refine l_nil ?_
                exact f_owes_d (up_cons (up_cons rfl hs154) hs148) rfl (List.Perm.refl _)
              · rintro f M ⟨k0, k1, k2, -⟩ -
                have hs152 : f 152 = Nx (C4.next) := k0
                have hs155 : f 155 = Nx ((C4.recs).length) := k1
                have hs148 : f 148 = .bool true := k2
                refine ob_start (L' := M) (by rfl) (up_cons (up_cons (up_cons rfl hs152) hs155) hs148) ?_
                refine g_val (v := Ix (((C4.next : Nat) : Int) - (((C4.recs).length : Nat) : Int))) rfl rfl rfl rfl rfl (e_sub (a := ((C4.next : Nat) : Int)) (b := (((C4.recs).length : Nat) : Int)) rfl rfl (i64w (by omega))) ?_
                refine l_nil ?_
                exact f_owes_d (up_cons (up_cons (up_cons rfl hs152) hs155) hs148) rfl (List.Perm.refl _)
              · rintro f M ⟨k0, -⟩ ⟨i0, -⟩
                have hs15 : f 15 = Nx (wz) := i0
                have hs148 : f 148 = .bool true := k0
                refine ob_start (L' := M) (by rfl) (up_cons (up_cons rfl hs15) hs148) ?_
                refine g_val (v := Nx (wz)) rfl rfl rfl rfl rfl (e_move) ?_
                refine l_nil ?_
                exact f_owes_d (up_cons (up_cons rfl hs15) hs148) rfl (List.Perm.refl _)
              · rintro f M ⟨k0, k1, k2, -⟩ -
                have hs156 : f 156 = Ix (((C4.next : Nat) : Int) - (((C4.recs).length : Nat) : Int)) := k0
                have hs157 : f 157 = Nx (wz) := k1
                have hs148 : f 148 = .bool true := k2
                refine ob_start (L' := M) (by rfl) (up_cons (up_cons (up_cons rfl hs156) hs157) hs148) ?_
                refine g_val (v := Ix ((((C4.next : Nat) : Int) - (((C4.recs).length : Nat) : Int)) + ((wz : Nat) : Int))) rfl rfl rfl rfl rfl (e_add (a := (((C4.next : Nat) : Int) - (((C4.recs).length : Nat) : Int))) (b := ((wz : Nat) : Int)) rfl rfl (i64w (by omega))) ?_
                refine l_nil ?_
                exact f_owes_d (up_cons (up_cons (up_cons rfl hs156) hs157) hs148) rfl (List.Perm.refl _)
              · rintro f M ⟨k0, k1, k2, -⟩ -
                have hs150 : f 150 = Nx (ti.next) := k0
                have hs158 : f 158 = Ix ((((C4.next : Nat) : Int) - (((C4.recs).length : Nat) : Int)) + ((wz : Nat) : Int)) := k1
                have hs148 : f 148 = .bool true := k2
                refine ob_start (L' := M) (by rfl) (up_cons (up_cons (up_cons rfl hs150) hs158) hs148) ?_
                refine g_val (v := .bool true) rfl rfl rfl rfl rfl ((ev_t (by omega) (e_eql (a := ((ti.next : Nat) : Int)) (b := ((((C4.next : Nat) : Int) - (((C4.recs).length : Nat) : Int)) + ((wz : Nat) : Int))) rfl rfl))) ?_
                refine l_nil ?_
                exact f_owes_d (up_cons (up_cons (up_cons rfl hs150) hs158) hs148) rfl (List.Perm.refl _)
              · rintro f M ⟨k0, k1, -⟩ -
                have hs148 : f 148 = .bool true := k0
                have hs159 : f 159 = .bool true := k1
                refine ob_start (L' := M) (by rfl) (up_cons (up_cons rfl hs148) hs159) ?_
                refine l_val (v := .bool true) rfl rfl rfl (e_pick_t rfl) ?_
                refine l_nil ?_
                exact f_owes_d (up_cons (up_cons rfl hs148) hs159) rfl (List.Perm.refl _)
              · rintro f M ⟨k0, -⟩ -
                have hs160 : f 160 = .bool true := k0
                refine ob_start (L' := M) (by rfl) (up_cons rfl hs160) ?_
                refine l_val (v := .bool true) rfl rfl rfl (e_move) ?_
                refine l_nil ?_
                exact f_owes_d (up_cons rfl hs160) rfl (List.Perm.refl _)
              · rintro f M ⟨k0, -⟩ -
                have hs161 : f 161 = .bool true := k0
                refine ob_start (L' := M) (by rfl) (up_cons rfl hs161) ?_
                refine g_call rfl rfl rfl rfl rfl (cl_value (fst := []) (cap := []) (vs := []) (all := []) tf111 rfl rfl rfl) ?_
                intro w hw
                obtain ⟨β1, sb, kn, hw1, back⟩ := St.frame_all hw
                refine (awake_ok β1 w hw1).mono ?_
                rintro e w' ⟨rfl, hw'⟩
                refine ⟨_, rfl, _, back _ _ hw', ?_⟩
                clear hw hw1 hw' back kn sb
                refine l_nil ?_
                exact f_owes_d (up_cons rfl hs161) rfl (List.Perm.refl _)
              · rintro f M ⟨k0, k1, -⟩ -
                have hs161 : f 161 = .bool true := k0
                have hs162 : f 162 = .bool true := k1
                refine ob_start (L' := M) (by rfl) (up_cons (up_cons rfl hs161) hs162) ?_
                refine l_val (v := .bool true) rfl rfl rfl (e_pick_t rfl) ?_
                refine l_nil ?_
                exact f_owes_d (up_cons (up_cons rfl hs161) hs162) rfl (List.Perm.refl _)
              · rintro f M ⟨k0, -⟩ -
                have hs163 : f 163 = .bool true := k0
                refine ob_start (L' := M) (by rfl) (up_cons rfl hs163) ?_
                refine l_val (v := .bool true) rfl rfl rfl (e_assign) ?_
                refine l_nil ?_
                exact f_owes_d (up_cons rfl hs163) rfl (List.Perm.refl _)
              rintro fa82 ⟨-, -, -, -, -, -, -, -, -, -, -, -, -, -, -, -, -, -, -, -, -, -, -, -, -, -, -, -, -, -, -, -, -, -, -, -, -, -, -, -, -, -, -, -, -, -, -, -, -, k49, -⟩ -
              refine f_re (L' := [pt b62 (.cells #[Nx (ti.epoch), Nx (ti.next), .slice ps58 (ti.state).length cs60, .slice pr59 (ti.recs).length cr61, Nx (ti.size)] 36), row (.slice ps58 (ti.state).length cs60) 5 1 ((ti.state).length) (BX ti.state), recsR 30 pr59 cr61 ti.recs, pt S1 (.cells #[.slice pH8 (K2.head).length cH11, .slice pA9 ((K2.a.set (at_ % ((K2.a).length)) (c53 ^^^ (max by_ (1 : UInt8))))).length cA12, .slice pB10 (K2.b).length cB13, Ix (K2.power)] 32), row (.slice pH8 (K2.head).length cH11) 5 1 ((K2.head).length) (BX K2.head), row (.slice pA9 ((K2.a.set (at_ % ((K2.a).length)) (c53 ^^^ (max by_ (1 : UInt8))))).length cA12) 5 1 (((K2.a.set (at_ % ((K2.a).length)) (c53 ^^^ (max by_ (1 : UInt8))))).length) (BX (K2.a.set (at_ % ((K2.a).length)) (c53 ^^^ (max by_ (1 : UInt8))))), row (.slice pB10 (K2.b).length cB13) 5 1 ((K2.b).length) (BX K2.b), pt b7 (.cells #[Nx (C4.epoch), Nx (C4.next), .string (C4.state), .slice p5 (C4.recs).length c6] 27), row (.slice p5 (C4.recs).length c6) 9 1 ((C4.recs).length) (C4.recs.map (fun s : ByteArray => Value.string s)), row (.slice (sla (fa82 141)) (ti.recs.map str).length (slc (fa82 141))) 9 1 ((ti.recs.map str).length) ((ti.recs.map str).map (fun s : ByteArray => Value.string s))]) (by rfl) ?_
              refine f_rebase (d := 6) (v := .bool true) k49 ?_
              refine f_then ?_
              refine c_ret ?_
              refine ret1 Try.results3 (v := .bool true) rfl ?_
              intro w hw
              exact ⟨rfl, st_mask [false, false, false, false, false, false, false, false, false, false] rfl hw⟩
          ·
            refine l_skip rfl rfl rfl rfl rfl rfl ?_
            refine l_skip rfl rfl rfl rfl rfl rfl ?_
            refine l_skip rfl rfl rfl rfl rfl rfl ?_
            refine l_skip rfl rfl rfl rfl rfl rfl ?_
            refine l_skip rfl rfl rfl rfl rfl rfl ?_
            refine l_skip rfl rfl rfl rfl rfl rfl ?_
            refine l_skip rfl rfl rfl rfl rfl rfl ?_
            refine l_skip rfl rfl rfl rfl rfl rfl ?_
            refine l_skip rfl rfl rfl rfl rfl rfl ?_
            refine l_skip rfl rfl rfl rfl rfl rfl ?_
            refine l_skip rfl rfl rfl rfl rfl rfl ?_
            refine l_val (v := .bool false) rfl rfl rfl (e_pick_f rfl) ?_
            refine l_nil ?_
            refine f_then ?_
            refine c_no rfl ?_
            refine c_exit ?_
            refine f_then_exit ?_
            refine f_then_exit ?_
            refine f_exit ?_
            refine f_then ?_
            refine c_seq ?_
            exfalso
            have h1 := sizes_take_mono (l := I3.recs) (show tw + 1 ≤ wz by omega)
            rw [sizes_take_succ ht1] at h1
            omega
end Go.Proofs
