/-
 The worlds' law: walked. Printed by a program of my own.
-/
import Derived.Test.YtdkibofhppgbjaaGreatDoorWd5
import Derived.Test.YtdkibofhppgbjaaGreatDoorSt23
import Derived.Test.YtdkibofhppgbjaaGreatDoorStAwk
import Derived.Test.YtdkibofhppgbjaaGreatDoorSlFlat
namespace Go.Stp
open Go.Sl Go.Proofs
/-- what World returns: a world's tick and entities, stops, an error -/
def WRes (tick : Int) (es : List KEnt) (rs : List KR) (gx gy tkW : Int) (EW : List KEnt) (SW : List KS) (eW : Int) : Prop :=
 (okS (bodiesOf es) (ropesOf (bodiesOf es) rs) gx gy ∧ ∃ T, stepsTo (ropesOf (bodiesOf es) rs) gx gy (bodiesOf es) (bodiesOf es).length = (T, SW) ∧ tkW = tick ∧ EW = es.map (backE T) ∧ eW = 0) ∨
 (¬ okS (bodiesOf es) (ropesOf (bodiesOf es) rs) gx gy ∧ tkW = 0 ∧ EW = [] ∧ SW = [] ∧ eW = 2)
theorem wres (tick : Int) (es : List KEnt) (rs : List KR) (gx gy : Int) : ∃ tkW EW SW eW, WRes tick es rs gx gy tkW EW SW eW := by
 by_cases h : okS (bodiesOf es) (ropesOf (bodiesOf es) rs) gx gy
 ·exact ⟨_, _, (stepsTo (ropesOf (bodiesOf es) rs) gx gy (bodiesOf es) (bodiesOf es).length).2, _, .inl ⟨h, _, rfl, rfl, rfl, rfl⟩⟩
 ·exact ⟨_, _, _, _, .inr ⟨h, rfl, rfl, rfl, rfl⟩⟩
theorem back_comps {B : List KB} {es : List KEnt} {N : Nat} (h : ∀ e ∈ es, e.comps.length ≤ N) : ∀ e ∈ es.map (backE B), e.comps.length ≤ N := fun e he => by
 obtain ⟨x, hx, rfl⟩ := List.mem_map.1 he
 show (backC B x.id x.comps).length ≤ N
 rw [back_len]; exact h x hx
theorem WRes.bd {tick : Int} {es : List KEnt} {rs : List KR} {gx gy tkW : Int} {EW : List KEnt} {SW : List KS} {eW : Int} (h : WRes tick es rs gx gy tkW EW SW eW) {N : Nat} (hn : es.length ≤ 12) (hc : ∀ e ∈ es, e.comps.length ≤ N) : EW.length ≤ 12 ∧ ∀ e ∈ EW, e.comps.length ≤ N := by
 rcases h with ⟨_, T, _, _, rfl, _⟩ | ⟨_, _, rfl, _⟩
 ·exact ⟨by rw [List.length_map]; exact hn, back_comps hc⟩
 ·exact ⟨by decide, by simp⟩
/-- a world that was lent, of which one knows the entities -/
def lentX (p : Option Addr) (c : Nat) (es : List KEnt) : Res := fun a => ∃ ov : List OL, ov.map (·.e) = es ∧ lentO p c ov a
theorem k_lentX {β : Base} {L : List Res} {p : Option Addr} {c : Nat} {es : List KEnt} (i : Nat) (hi : L[i]? = some (lentX p c es)) : Knows β L (fun h => LESl h (.slice p es.length c) es) :=
 Knows.of_res i hi (LESl.mono _ _) fun a ⟨ov, h1, h2⟩ => by subst h1; exact lentO_le a h2
theorem le_sl {h : PHeap} {v : Value} {xs : List KEnt} (hl : LESl h v xs) : Sl EntR h v xs := by
 obtain ⟨p, c, rfl, h1, h2, _, h3⟩ := hl
 exact ⟨p, c, rfl, by omega, h2, Elems.left h3⟩
end Go.Stp
namespace Go.Proofs
open Go Go.Sl Go.Stp
theorem tw219 : cfB Tryz.prog 16 = true := by kernel_rfl
theorem tw220 : cfB Tryz.prog 17 = true := by kernel_rfl
theorem tw221 : fldB Tryz.prog 30 2 2 2 true = true := by kernel_rfl
theorem tw222 : cfB Tryz.prog 13 = true := by kernel_rfl
theorem tw223 : cfB Tryz.prog 23 = true := by kernel_rfl
theorem tw224 : cfB Tryz.prog 24 = true := by kernel_rfl
theorem tw225 : cfB Tryz.prog 25 = true := by kernel_rfl
theorem tw226 : cfB Tryz.prog 14 = true := by kernel_rfl
theorem tw227 : cfB Tryz.prog 26 = true := by kernel_rfl
theorem tw228 : cfB Tryz.prog 27 = true := by kernel_rfl
theorem tw229 : cfB Tryz.prog 28 = true := by kernel_rfl
theorem tw230 : cfB Tryz.prog 29 = true := by kernel_rfl
theorem tw231 : cfB Tryz.prog 30 = true := by kernel_rfl
theorem tw232 : cfB Tryz.prog 5 = true := by kernel_rfl
theorem tw233 : cfB Tryz.prog 7 = true := by kernel_rfl
theorem tw234 : Tryz.prog.underlying 25 = some (.slice 52) := by kernel_rfl
theorem tw235 : cfB Tryz.prog 6 = true := by kernel_rfl
theorem worldU_ok (β : Base) (w : World) (hw : St β [] w) (tick : Int) (v rv : Value) (gx gy : Int) (es : List KEnt) (rs : List KR) (hs : Sl EntR β.heap v es) (hr : Sl KRR β.heap rv rs) (hn : es.length ≤ 65536) (hrn : rs.length ≤ 65536) (hcl : ∀ e ∈ es, e.comps.length ≤ 65536) (hgx : -9223372036854775808 ≤ gx ∧ gx ≤ 9223372036854775807) (hgy : -9223372036854775808 ≤ gy ∧ gy ≤ 9223372036854775807) (hG : GR β) (tkW : Int) (EW : List KEnt) (SW : List KS) (eW : Int) (hW : WRes tick es rs gx gy tkW EW SW eW) : Calls Tryz.prog 24 #[.agg #[Ix tick, v], rv, .agg #[Ix gx, Ix gy]] w fun r w' => ∃ p c hd sp sc, hd.length = EW.length ∧ r = .returned (.tuple #[.agg #[Ix tkW, .slice p EW.length c], .slice sp SW.length sc, Ix eW]) ∧ St β [rowF HdF 59 p c hd, goodO 120 hd EW, rowF StopF 55 sp sc SW] w' := by
 rcases hW with ⟨hok, T, hT, rfl, rfl, rfl⟩ | ⟨hno, rfl, rfl, rfl, rfl⟩
 ·refine (worldO_ok β w hw _ v rv gx gy es rs hs hr hn hrn hcl hgx hgy hG hok T SW hT).mono ?_
  rintro r w' ⟨p, c, hd, sp, sc, h1, rfl, h2⟩
  exact ⟨p, c, hd, sp, sc, by rw [h1, List.length_map], by rw [List.length_map], h2⟩
 ·refine (worldN_ok β w hw _ v rv gx gy es rs hs hr hn hrn hgx hgy hG hno).mono ?_
  rintro r w' ⟨rfl, h2⟩
  exact ⟨none, 0, [], none, 0, rfl, rfl, ((h2.emp (row_nil _ _ _)).emp goodO_nil).emp (row_nil _ _ _)⟩
theorem rworldU_ok (β : Base) (w : World) (hw : St β [] w) (tick : Int) (v rv : Value) (gx gy : Int) (es : List KEnt) (rs : List KR) (hs : Sl EntR β.heap v es) (hr : Sl KRR β.heap rv rs) (hn : es.length ≤ 65536) (hrn : rs.length ≤ 65536) (hcl : ∀ e ∈ es, e.comps.length ≤ 65536) (tkW : Int) (EW : List KEnt) (SW : List KS) (eW : Int) (hW : WRes tick es rs gx gy tkW EW SW eW) : Calls Tryz.prog 25 #[.agg #[Ix tick, v], rv, .agg #[Ix gx, Ix gy]] w fun r w' => ∃ p c sp sc, r = .returned (.tuple #[.agg #[Ix tkW, .slice p EW.length c], .slice sp SW.length sc, Ix eW]) ∧ St β [entsR p c EW, rowF StopF 55 sp sc SW] w' := by
 rcases hW with ⟨hok, T, hT, rfl, rfl, rfl⟩ | ⟨hno, rfl, rfl, rfl, rfl⟩
 ·refine (rworldY_ok β w hw _ v rv gx gy es rs hs hr hn hrn hcl hok T SW hT).mono ?_
  rintro r w' ⟨p, c, sp, sc, rfl, h2⟩
  exact ⟨p, c, sp, sc, by rw [List.length_map], h2⟩
 ·refine (rworldN_ok β w hw _ v rv gx gy es rs hs hr hn hrn hcl hno).mono ?_
  rintro r w' ⟨rfl, h2⟩
  exact ⟨none, 0, none, 0, rfl, (h2.emp (row_nil _ _ _)).emp (Sl.nil _ _)⟩
theorem lentX_ok (β : Base) (w : World) (hw : St β [] w) (t : Int) (v : Value) (es : List KEnt) (hs : Sl EntR β.heap v es) (hn : es.length ≤ 1000) (hbig : ∀ (i : Nat) e, es[i]? = some e → e.comps.length ≤ 20) : Calls Tryz.prog 16 #[.agg #[Ix t, v]] w fun r w' => ∃ p c, r = .returned (.agg #[Ix t, .slice p es.length c]) ∧ St β [lentX p c es] w' := by
 refine (lentWorld_ok β w hw ⟨t, es⟩ v hs hn hbig).mono ?_
 rintro r w' ⟨p, c, vs, h1, h2, h3⟩
 obtain ⟨ov, h4, h5⟩ := lent_own (xs := es) h2 h3
 exact ⟨p, c, h1, h5.conseq fun a ha => ⟨ov, h4, ha⟩⟩
theorem overX_ok (β : Base) (w : World) (t : Int) (p : Option Addr) (c : Nat) (es : List KEnt) (hle : es.length ≤ 1000) (hcl : ∀ e ∈ es, e.comps.length ≤ 1000) (hw : St β [lentX p c es] w) : Calls Tryz.prog 29 #[.agg #[Ix t, .slice p es.length c]] w fun r w' => r = .returned (.tuple #[]) ∧ St β [] w' := by
 obtain ⟨ov, h⟩ := St.ex (r := fun (ov : List OL) a => ov.map (·.e) = es ∧ lentO p c ov a) hw
 have he : ov.map (·.e) = es := h.knows (F := fun _ => ov.map (·.e) = es) (Knows.of_res 0 rfl (fun _ _ _ h => h) fun _ h => h.1)
 subst he
 rw [List.length_map] at hle ⊢
 exact overW_ok β w t p c ov hle (fun o ho => hcl _ (List.mem_map_of_mem ho)) (h.conseq fun a ha => ha.2)
theorem keptX_ok (β : Base) (w : World) (hw : St β [] w) (t : Int) (es : List KEnt) (v v' : Value) (hx : LESl β.heap v es) (hy : Sl EntR β.heap v' es) : Calls Tryz.prog 27 #[.agg #[Ix t, v], .agg #[Ix t, v']] w fun r w' => r = .returned (.bool true) ∧ St β [] w' :=
 (keptWorld_ok β w hw ⟨t, es⟩ ⟨t, es⟩ v v' hx hy).mono fun r w' ⟨h1, h2⟩ => ⟨by rw [h1, decide_eq_true rfl], h2⟩
theorem sameX_ok (β : Base) (w : World) (hw : St β [] w) (t : Int) (es : List KEnt) (v v' : Value) (hx : Sl EntR β.heap v es) (hy : Sl EntR β.heap v' es) : Calls Tryz.prog 21 #[.agg #[Ix t, v], .agg #[Ix t, v']] w fun r w' => r = .returned (.bool true) ∧ St β [] w' :=
 (sameWorld_ok β w hw ⟨t, es⟩ ⟨t, es⟩ v v' hx hy).mono fun r w' ⟨h1, h2⟩ => ⟨by rw [h1, decide_eq_true rfl], h2⟩
theorem apartO_ok (β : Base) (w : World) (b1 b2 b3 : Nat) (t1 t2 : Int) (ea : Option Addr) (ec n1 : Nat) (hd : List KHd) (E : List KEnt) (fa : Option Addr) (fc n2 : Nat) (hd2 : List KHd) (F : List KEnt) (hls : Sl H3F.R β.heap (.slice (some ⟨b3, 0, none⟩) 2 2) [(⟨some ⟨b1, 0, none⟩, 1, 1⟩ : H3), ⟨some ⟨b2, 0, none⟩, 1, 1⟩]) (h1 : hd.length = n1) (h2 : hd2.length = n2) (hn1 : n1 ≤ 100) (hn2 : n2 ≤ 100) (hE : ∀ e ∈ E, e.comps.length ≤ 1000000) (hF : ∀ e ∈ F, e.comps.length ≤ 1000000) (hw : St β [pt b1 (.cells #[Ix t1, .slice ea n1 ec] 24), pt b2 (.cells #[Ix t2, .slice fa n2 fc] 24), rowF HdF 59 ea ec hd, rowF HdF 59 fa fc hd2, goodO 120 hd E, goodO 120 hd2 F] w) : Calls Tryz.prog 26 #[.slice (some ⟨b3, 0, none⟩) 2 2] w fun r w' => r = .returned (.bool true) ∧ St β [] w' := by
 subst h1; subst h2
 have g1 : EntH hd E := hw.knows (F := fun _ => EntH hd E) (goodO_hd 4 rfl)
 have g2 : EntH hd2 F := hw.knows (F := fun _ => EntH hd2 F) (goodO_hd 5 rfl)
 have w1 := hw.conseq_at 0 rfl (pt_rowF (F := WdF) (xs := [⟨t1, ea, hd.length, ec⟩]) rfl (by simp))
 have w2 := w1.conseq_at 1 rfl (pt_rowF (F := WdF) (xs := [⟨t2, fa, hd2.length, fc⟩]) rfl (by simp))
 have w3 := w2.conseq_at 4 rfl goodO_rows
 have w4 := w3.conseq_at 5 rfl goodO_rows
 exact apartW_ok β w _ _ _ _ _ _ t1 t2 ea ec hd fa fc hd2 _ _ hls (hv_hd g1).symm (hv_hd g2).symm hn1 hn2 (hv_bd hE) (hv_bd hF) w4
set_option maxHeartbeats 4000000 in
theorem worlds_ok (β : Base) (w : World) (hw : St β [] w) (tick : Int) (v bv rv : Value) (gx gy : Int) (es : List KEnt) (bs : List KB) (rs : List KR) (hs : Sl EntR β.heap v es) (hb : Sl KBR β.heap bv bs) (hr : Sl KRR β.heap rv rs) (hgx : -9223372036854775808 ≤ gx ∧ gx ≤ 9223372036854775807) (hgy : -9223372036854775808 ≤ gy ∧ gy ≤ 9223372036854775807) (hG : GR β) (hen : es.length ≤ 12) (hcl8 : ∀ e ∈ es, e.comps.length ≤ 8) (hbn : bs.length ≤ 12) (hrn6 : rs.length ≤ 6) : Calls Tryz.prog 6 #[.agg #[Ix tick, v], .agg #[bv, rv, Ix gx, Ix gy]] w fun r w' => r = .returned (.bool true) ∧ St β [] w' := by
 obtain ⟨va, vc, rfl, vl, vm, ve⟩ := hs.get
 obtain ⟨bva, bvc, rfl, bvl, bvm, bve⟩ := hb.get
 obtain ⟨rva, rvc, rfl, rvl, rvm, rve⟩ := hr.get
 have hn : es.length ≤ 65536 := by omega
 have hrn : rs.length ≤ 65536 := by omega
 have hcl : ∀ e ∈ es, e.comps.length ≤ 65536 := fun e he => by have := hcl8 e he; omega
 have hbig : ∀ (i : Nat) e, es[i]? = some e → e.comps.length ≤ 20 := fun i e he => by have := hcl8 e (List.mem_of_getElem? he); omega
 obtain ⟨tkW, EW, SW, eW, hW⟩ := wres tick es rs gx gy
 have hWb := hW.bd hen hcl8
 refine enter (n := 113) Tryz.func6 rfl Tryz.ntmps6 rfl ?_ hw
 refine c_seq ?_
 refine c_region ?_
 refine l_mv rfl rfl rfl (m_box (v := .agg #[Ix (tick), .slice va (es.length) (vc)]) rfl) ?_
 rintro _ _ ⟨b1, rfl, rfl⟩
 refine l_mv rfl rfl rfl (m_box (v := .agg #[.slice bva (bs.length) (bvc), .slice rva (rs.length) (rvc), Ix (gx), Ix (gy)]) rfl) ?_
 rintro _ _ ⟨b2, rfl, rfl⟩
 refine l_val (v := .bool false) rfl rfl rfl (e_assign) ?_
 refine l_nil ?_
 refine f_then ?_
 refine c_seq ?_
 refine c_any [⟨[], [], [0], [15], fun f => f 15 = .agg #[Ix (tick), .slice va (es.length) (vc)]⟩, ⟨[0], [0], [], [16], fun f => f 16 = .agg #[Ix (tick), .slice (sla (prt 1 (f 16))) (es.length) (slc (prt 1 (f 16)))]⟩, ⟨[], [], [1], [17], fun f => f 17 = .agg #[.slice bva (bs.length) (bvc), .slice rva (rs.length) (rvc), Ix (gx), Ix (gy)]⟩, ⟨[0, 1, 2], [2], [], [18], fun f => f 18 = .agg #[.slice (sla (prt 0 (f 18))) (bs.length) (slc (prt 0 (f 18))), .slice (sla (prt 1 (f 18))) (rs.length) (slc (prt 1 (f 18))), Ix (gx), Ix (gy)]⟩, ⟨[], [], [], [5], fun f => f 5 = .pointer (some ⟨(blk (f 5)), 0, none⟩)⟩, ⟨[], [], [], [6], fun f => f 6 = .pointer (some ⟨(blk (f 6)), 0, none⟩)⟩, ⟨[0, 1, 2, 3, 4, 5], [4, 1], [], [], fun _ => True⟩, ⟨[0, 1, 2, 3, 4, 5, 6], [5, 3], [], [], fun _ => True⟩] [⟨none, none, [2], [], fun _ => pt b2 (.cells #[.slice bva (bs.length) (bvc), .slice rva (rs.length) (rvc), Ix (gx), Ix (gy)] 30)⟩, ⟨none, none, [0], [], fun _ => pt b1 (.cells #[Ix (tick), .slice va (es.length) (vc)] 24)⟩, ⟨(some 1), none, [], [16], fun f => lentX (sla (prt 1 (f 16))) (slc (prt 1 (f 16))) es⟩, ⟨(some 3), none, [], [18], fun f => rowF BodyF 52 (sla (prt 0 (f 18))) (slc (prt 0 (f 18))) (lentL (markB 1) bs)⟩, ⟨(some 3), none, [], [18], fun f => rowF RopeF 78 (sla (prt 1 (f 18))) (slc (prt 1 (f 18))) (lentL (markR 1) rs)⟩, ⟨(some 4), (some 6), [6], [5], fun f => pt (blk (f 5)) (.cells #[.int .i64 (0), .slice none 0 0] 24)⟩, ⟨(some 5), (some 7), [7], [6], fun f => pt (blk (f 6)) (.cells #[.slice none 0 0, .slice none 0 0, .int .i64 (0), .int .i64 (0)] 30)⟩, ⟨(some 6), none, [], [5, 16], fun f => pt (blk (f 5)) (.cells #[Ix (tick), .slice (sla (prt 1 (f 16))) (es.length) (slc (prt 1 (f 16)))] 24)⟩, ⟨(some 7), none, [], [6, 18], fun f => pt (blk (f 6)) (.cells #[.slice (sla (prt 0 (f 18))) (bs.length) (slc (prt 0 (f 18))), .slice (sla (prt 1 (f 18))) (rs.length) (slc (prt 1 (f 18))), Ix (gx), Ix (gy)] 30)⟩] [(2, .pointer (some ⟨b1, 0, none⟩)), (3, .pointer (some ⟨b2, 0, none⟩))] [0, 1] [] (by kernel_rfl) (by kernel_rfl) (by kernel_rfl) (by kernel_rfl) rfl ⟨rfl, rfl, trivial⟩ ⟨?_, ?_, ?_, ?_, ?_, ?_, ?_, ?_, trivial⟩ ?_
 ·rintro f M - ⟨i0, -⟩
  have hs2 : f 2 = .pointer (some ⟨b1, 0, none⟩) := i0
  refine ob_start (L' := pt b1 (.cells #[Ix (tick), .slice va (es.length) (vc)] 24) :: M) (by rfl) (up_cons rfl hs2) ?_
  refine l_val (v := .agg #[Ix (tick), .slice va (es.length) (vc)]) rfl rfl rfl (e_load tw48 (cs := [Ix (tick), .slice va (es.length) (vc)]) rfl (k_pt 0 (cs := #[Ix (tick), .slice va (es.length) (vc)]) (vs := [Ix (tick), .slice va (es.length) (vc)]) rfl rfl) rfl) ?_
  refine l_nil ?_
  exact f_owes_d (up_cons rfl hs2) rfl (perm_front 0 rfl)
 ·rintro f M ⟨k0, -⟩ -
  have hs15 : f 15 = .agg #[Ix (tick), .slice va (es.length) (vc)] := k0
  refine ob_start (L' := M) (by rfl) (up_cons rfl hs15) ?_
  refine l_call rfl rfl rfl (cl_value (fst := []) (cap := []) (vs := [.agg #[Ix (tick), .slice va (es.length) (vc)]]) (all := [.agg #[Ix (tick), .slice va (es.length) (vc)]]) tw219 rfl rfl rfl) ?_
  intro w hw
  obtain ⟨β1, sb, kn, hw1, back⟩ := St.frame_all hw
  refine (lentX_ok β1 w hw1 (tick) _ es (Sl.mono _ _ _ _ _ sb (⟨⟨_, _, rfl, vl, vm, ve⟩⟩ : Sl EntR _ _ es)) (by omega) hbig).mono ?_
  rintro e w' ⟨p5, c6, rfl, hw'⟩
  refine ⟨_, rfl, _, back _ _ hw', ?_⟩
  clear hw hw1 hw' back kn sb
  refine l_nil ?_
  exact f_owes_d (up_cons rfl hs15) rfl (perm_front 0 rfl)
 ·rintro f M - ⟨i0, -⟩
  have hs3 : f 3 = .pointer (some ⟨b2, 0, none⟩) := i0
  refine ob_start (L' := pt b2 (.cells #[.slice bva (bs.length) (bvc), .slice rva (rs.length) (rvc), Ix (gx), Ix (gy)] 30) :: M) (by rfl) (up_cons rfl hs3) ?_
  refine l_val (v := .agg #[.slice bva (bs.length) (bvc), .slice rva (rs.length) (rvc), Ix (gx), Ix (gy)]) rfl rfl rfl (e_load tw25 (cs := [.slice bva (bs.length) (bvc), .slice rva (rs.length) (rvc), Ix (gx), Ix (gy)]) rfl (k_pt 0 (cs := #[.slice bva (bs.length) (bvc), .slice rva (rs.length) (rvc), Ix (gx), Ix (gy)]) (vs := [.slice bva (bs.length) (bvc), .slice rva (rs.length) (rvc), Ix (gx), Ix (gy)]) rfl rfl) rfl) ?_
  refine l_nil ?_
  exact f_owes_d (up_cons rfl hs3) rfl (perm_front 0 rfl)
 ·rintro f M ⟨k0, -⟩ -
  have hs17 : f 17 = .agg #[.slice bva (bs.length) (bvc), .slice rva (rs.length) (rvc), Ix (gx), Ix (gy)] := k0
  refine ob_start (L' := M) (by rfl) (up_cons rfl hs17) ?_
  refine l_call rfl rfl rfl (cl_value (fst := []) (cap := []) (vs := [.agg #[.slice bva (bs.length) (bvc), .slice rva (rs.length) (rvc), Ix (gx), Ix (gy)]]) (all := [.agg #[.slice bva (bs.length) (bvc), .slice rva (rs.length) (rvc), Ix (gx), Ix (gy)]]) tw220 rfl rfl rfl) ?_
  intro w hw
  obtain ⟨β1, sb, kn, hw1, back⟩ := St.frame_all hw
  refine (lentS_ok β1 w hw1 _ _ gx gy bs rs (Sl.mono _ _ _ _ _ sb (⟨⟨_, _, rfl, bvl, bvm, bve⟩⟩ : Sl KBR _ _ bs)) (Sl.mono _ _ _ _ _ sb (⟨⟨_, _, rfl, rvl, rvm, rve⟩⟩ : Sl KRR _ _ rs)) (by omega) (by omega)).mono ?_
  rintro e w' ⟨p11, c12, q13, d14, rfl, hw'⟩
  refine ⟨_, rfl, _, back _ _ hw', ?_⟩
  clear hw hw1 hw' back kn sb
  refine l_nil ?_
  exact f_owes_d (up_cons rfl hs17) rfl ((perm_front 1 rfl).trans (perm_front 1 rfl))
 ·rintro f M - -
  refine ob_start (L' := M) (by rfl) rfl ?_
  refine l_mv rfl rfl rfl (m_alloc tw45) ?_
  rintro _ _ ⟨b16, rfl, rfl⟩
  refine l_nil ?_
  exact f_owes_d rfl rfl (perm_front 0 rfl)
 ·rintro f M - -
  refine ob_start (L' := M) (by rfl) rfl ?_
  refine l_mv rfl rfl rfl (m_alloc tw23) ?_
  rintro _ _ ⟨b18, rfl, rfl⟩
  refine l_nil ?_
  exact f_owes_d rfl rfl (perm_front 0 rfl)
 ·rintro f M ⟨k0, k1, -⟩ -
  have hs5 : f 5 = .pointer (some ⟨(blk (f 5)), 0, none⟩) := k0
  have hs16 : f 16 = .agg #[Ix (tick), .slice (sla (prt 1 (f 16))) (es.length) (slc (prt 1 (f 16)))] := k1
  refine ob_start (L' := pt (blk (f 5)) (.cells #[.int .i64 (0), .slice none 0 0] 24) :: M) (by rfl) (up_cons (up_cons rfl hs5) hs16) ?_
  refine l_mu rfl rfl (m_store 0 tw48 (b := (blk (f 5))) (o := 0) (T := 24) (cs := #[.int .i64 (0), .slice none 0 0]) (cs' := #[Ix (tick), .slice (sla (prt 1 (f 16))) (es.length) (slc (prt 1 (f 16)))]) (v := .agg #[Ix (tick), .slice (sla (prt 1 (f 16))) (es.length) (slc (prt 1 (f 16)))]) rfl rfl rfl rfl rfl rfl rfl) ?_
  refine l_nil ?_
  exact f_owes_n (up_cons (up_cons rfl hs5) hs16) trivial (perm_front 0 rfl)
 ·rintro f M ⟨k0, k1, -⟩ -
  have hs6 : f 6 = .pointer (some ⟨(blk (f 6)), 0, none⟩) := k0
  have hs18 : f 18 = .agg #[.slice (sla (prt 0 (f 18))) (bs.length) (slc (prt 0 (f 18))), .slice (sla (prt 1 (f 18))) (rs.length) (slc (prt 1 (f 18))), Ix (gx), Ix (gy)] := k1
  refine ob_start (L' := pt (blk (f 6)) (.cells #[.slice none 0 0, .slice none 0 0, .int .i64 (0), .int .i64 (0)] 30) :: M) (by rfl) (up_cons (up_cons rfl hs6) hs18) ?_
  refine l_mu rfl rfl (m_store 0 tw25 (b := (blk (f 6))) (o := 0) (T := 30) (cs := #[.slice none 0 0, .slice none 0 0, .int .i64 (0), .int .i64 (0)]) (cs' := #[.slice (sla (prt 0 (f 18))) (bs.length) (slc (prt 0 (f 18))), .slice (sla (prt 1 (f 18))) (rs.length) (slc (prt 1 (f 18))), Ix (gx), Ix (gy)]) (v := .agg #[.slice (sla (prt 0 (f 18))) (bs.length) (slc (prt 0 (f 18))), .slice (sla (prt 1 (f 18))) (rs.length) (slc (prt 1 (f 18))), Ix (gx), Ix (gy)]) rfl rfl rfl rfl rfl rfl rfl) ?_
  refine l_nil ?_
  exact f_owes_n (up_cons (up_cons rfl hs6) hs18) trivial (perm_front 0 rfl)
 rintro fa19 ⟨-, -, -, -, k4, k5, -, -, -⟩ ⟨j0, j1, -⟩
 refine f_re (L' := [pt b2 (.cells #[.slice bva (bs.length) (bvc), .slice rva (rs.length) (rvc), Ix (gx), Ix (gy)] 30), pt b1 (.cells #[Ix (tick), .slice va (es.length) (vc)] 24), lentX (sla (prt 1 (fa19 16))) (slc (prt 1 (fa19 16))) es, rowF BodyF 52 (sla (prt 0 (fa19 18))) (slc (prt 0 (fa19 18))) (lentL (markB 1) bs), rowF RopeF 78 (sla (prt 1 (fa19 18))) (slc (prt 1 (fa19 18))) (lentL (markR 1) rs), pt (blk (fa19 5)) (.cells #[Ix (tick), .slice (sla (prt 1 (fa19 16))) (es.length) (slc (prt 1 (fa19 16)))] 24), pt (blk (fa19 6)) (.cells #[.slice (sla (prt 0 (fa19 18))) (bs.length) (slc (prt 0 (fa19 18))), .slice (sla (prt 1 (fa19 18))) (rs.length) (slc (prt 1 (fa19 18))), Ix (gx), Ix (gy)] 30)]) (by rfl) ?_
 refine f_rebase (d := 2) (v := .pointer (some ⟨b1, 0, none⟩)) j0 ?_
 refine f_rebase (d := 3) (v := .pointer (some ⟨b2, 0, none⟩)) j1 ?_
 refine f_rebase (d := 5) (v := .pointer (some ⟨(blk (fa19 5)), 0, none⟩)) k4 ?_
 refine f_rebase (d := 6) (v := .pointer (some ⟨(blk (fa19 6)), 0, none⟩)) k5 ?_
 refine f_then ?_
 refine c_seq ?_
 refine c_region ?_
 refine l_val (v := .agg #[Ix (tick), .slice (sla (prt 1 (fa19 16))) (es.length) (slc (prt 1 (fa19 16)))]) rfl rfl rfl (e_load tw48 (cs := [Ix (tick), .slice (sla (prt 1 (fa19 16))) (es.length) (slc (prt 1 (fa19 16)))]) rfl (k_pt 5 (cs := #[Ix (tick), .slice (sla (prt 1 (fa19 16))) (es.length) (slc (prt 1 (fa19 16)))]) (vs := [Ix (tick), .slice (sla (prt 1 (fa19 16))) (es.length) (slc (prt 1 (fa19 16)))]) rfl rfl) rfl) ?_
 refine l_val (v := .pointer (some ⟨(blk (fa19 6)), 1, none⟩)) rfl rfl rfl (e_fieldPt (b := (blk (fa19 6))) (o := 0) rfl tw40) ?_
 refine l_val (v := .slice (sla (prt 1 (fa19 18))) (rs.length) (slc (prt 1 (fa19 18)))) rfl rfl rfl (e_load1 tw41 (v := .slice (sla (prt 1 (fa19 18))) (rs.length) (slc (prt 1 (fa19 18)))) rfl (k_pt 6 (cs := #[.slice (sla (prt 0 (fa19 18))) (bs.length) (slc (prt 0 (fa19 18))), .slice (sla (prt 1 (fa19 18))) (rs.length) (slc (prt 1 (fa19 18))), Ix (gx), Ix (gy)]) (vs := [.slice (sla (prt 1 (fa19 18))) (rs.length) (slc (prt 1 (fa19 18)))]) rfl rfl)) ?_
 refine l_val (v := .pointer (some ⟨b2, 2, none⟩)) rfl rfl rfl (e_fieldPt (b := b2) (o := 0) rfl tw221) ?_
 refine l_val (v := .agg #[Ix (gx), Ix (gy)]) rfl rfl rfl (e_load tw22 (cs := [Ix (gx), Ix (gy)]) rfl (k_pt 0 (cs := #[.slice bva (bs.length) (bvc), .slice rva (rs.length) (rvc), Ix (gx), Ix (gy)]) (vs := [Ix (gx), Ix (gy)]) rfl rfl) rfl) ?_
 refine l_call rfl rfl rfl (cl_value (fst := []) (cap := []) (vs := [.agg #[Ix (tick), .slice (sla (prt 1 (fa19 16))) (es.length) (slc (prt 1 (fa19 16)))], .slice (sla (prt 1 (fa19 18))) (rs.length) (slc (prt 1 (fa19 18))), .agg #[Ix (gx), Ix (gy)]]) (all := [.agg #[Ix (tick), .slice (sla (prt 1 (fa19 16))) (es.length) (slc (prt 1 (fa19 16)))], .slice (sla (prt 1 (fa19 18))) (rs.length) (slc (prt 1 (fa19 18))), .agg #[Ix (gx), Ix (gy)]]) tw66 rfl rfl rfl) ?_
 intro w hw
 obtain ⟨β1, sb, kn, hw1, back⟩ := St.frame_all hw
 refine (worldB_ok β1 w hw1 _ _ _ (gx) (gy) es rs (le_sl (kn _ (k_lentX 2 rfl))) (kn _ (k_flPre 4 (F := RopeF) (xs := rs) rfl rfl)) hn hrn).mono ?_
 rintro e w' ⟨p20, c21, p22, c23, rfl, hw'⟩
 refine ⟨_, rfl, _, back _ _ hw', ?_⟩
 clear hw hw1 hw' back kn sb
 refine l_mv rfl rfl rfl (m_alloc tw23) ?_
 rintro _ _ ⟨b24, rfl, rfl⟩
 refine l_mu rfl rfl (m_store 0 tw25 (b := b24) (o := 0) (T := 30) (cs := #[.slice none 0 0, .slice none 0 0, .int .i64 (0), .int .i64 (0)]) (cs' := #[.slice p20 ((bodiesOf es).length) c21, .slice p22 ((ropesOf (bodiesOf es) rs).length) c23, Ix (gx), Ix (gy)]) (v := .agg #[.slice p20 ((bodiesOf es).length) c21, .slice p22 ((ropesOf (bodiesOf es) rs).length) c23, Ix (gx), Ix (gy)]) rfl rfl rfl rfl rfl rfl rfl) ?_
 refine l_nil ?_
 refine f_then ?_
 refine c_seq ?_
 refine c_region ?_
 refine l_val (v := .agg #[Ix (tick), .slice (sla (prt 1 (fa19 16))) (es.length) (slc (prt 1 (fa19 16)))]) rfl rfl rfl (e_load tw48 (cs := [Ix (tick), .slice (sla (prt 1 (fa19 16))) (es.length) (slc (prt 1 (fa19 16)))]) rfl (k_pt 8 (cs := #[Ix (tick), .slice (sla (prt 1 (fa19 16))) (es.length) (slc (prt 1 (fa19 16)))]) (vs := [Ix (tick), .slice (sla (prt 1 (fa19 16))) (es.length) (slc (prt 1 (fa19 16)))]) rfl rfl) rfl) ?_
 refine l_val (v := .agg #[.slice (sla (prt 0 (fa19 18))) (bs.length) (slc (prt 0 (fa19 18))), .slice (sla (prt 1 (fa19 18))) (rs.length) (slc (prt 1 (fa19 18))), Ix (gx), Ix (gy)]) rfl rfl rfl (e_load tw25 (cs := [.slice (sla (prt 0 (fa19 18))) (bs.length) (slc (prt 0 (fa19 18))), .slice (sla (prt 1 (fa19 18))) (rs.length) (slc (prt 1 (fa19 18))), Ix (gx), Ix (gy)]) rfl (k_pt 9 (cs := #[.slice (sla (prt 0 (fa19 18))) (bs.length) (slc (prt 0 (fa19 18))), .slice (sla (prt 1 (fa19 18))) (rs.length) (slc (prt 1 (fa19 18))), Ix (gx), Ix (gy)]) (vs := [.slice (sla (prt 0 (fa19 18))) (bs.length) (slc (prt 0 (fa19 18))), .slice (sla (prt 1 (fa19 18))) (rs.length) (slc (prt 1 (fa19 18))), Ix (gx), Ix (gy)]) rfl rfl) rfl) ?_
 refine l_call rfl rfl rfl (cl_value (fst := []) (cap := []) (vs := [.agg #[Ix (tick), .slice (sla (prt 1 (fa19 16))) (es.length) (slc (prt 1 (fa19 16)))], .agg #[.slice (sla (prt 0 (fa19 18))) (bs.length) (slc (prt 0 (fa19 18))), .slice (sla (prt 1 (fa19 18))) (rs.length) (slc (prt 1 (fa19 18))), Ix (gx), Ix (gy)]]) (all := [.agg #[Ix (tick), .slice (sla (prt 1 (fa19 16))) (es.length) (slc (prt 1 (fa19 16)))], .agg #[.slice (sla (prt 0 (fa19 18))) (bs.length) (slc (prt 0 (fa19 18))), .slice (sla (prt 1 (fa19 18))) (rs.length) (slc (prt 1 (fa19 18))), Ix (gx), Ix (gy)]]) tw68 rfl rfl rfl) ?_
 intro w hw
 obtain ⟨β1, sb, kn, hw1, back⟩ := St.frame_all hw
 refine (backO_ok β1 w hw1 _ _ _ _ _ _ es bs (le_sl (kn _ (k_lentX 5 rfl))) (kn _ (k_flPre 6 (F := BodyF) (xs := bs) rfl rfl)) hn hcl).mono ?_
 rintro e w' ⟨p25, c26, hd27, hl28, rfl, hw'⟩
 refine ⟨_, rfl, _, back _ _ hw', ?_⟩
 clear hw hw1 hw' back kn sb
 refine l_mv rfl rfl rfl (m_alloc tw45) ?_
 rintro _ _ ⟨b29, rfl, rfl⟩
 refine l_mu rfl rfl (m_store 0 tw48 (b := b29) (o := 0) (T := 24) (cs := #[.int .i64 (0), .slice none 0 0]) (cs' := #[Ix (tick), .slice p25 (es.length) c26]) (v := .agg #[Ix (tick), .slice p25 (es.length) c26]) rfl rfl rfl rfl rfl rfl rfl) ?_
 refine l_nil ?_
 refine f_then ?_
 refine c_seq ?_
 refine c_seq ?_
 refine c_any [⟨[], [], [0], [28], fun f => f 28 = .agg #[.slice p20 ((bodiesOf es).length) c21, .slice p22 ((ropesOf (bodiesOf es) rs).length) c23, Ix (gx), Ix (gy)]⟩, ⟨[], [], [1], [29], fun f => f 29 = .agg #[Ix (tick), .slice va (es.length) (vc)]⟩, ⟨[], [], [2], [30], fun f => f 30 = .pointer (some ⟨b2, 1, none⟩)⟩, ⟨[2], [2], [], [31], fun f => f 31 = .slice rva (rs.length) (rvc)⟩, ⟨[], [], [2], [32], fun f => f 32 = .pointer (some ⟨b2, 2, none⟩)⟩, ⟨[4], [4], [], [33], fun f => f 33 = .agg #[Ix (gx), Ix (gy)]⟩, ⟨[1, 2, 3, 4, 5], [1, 3, 5], [], [34], fun f => f 34 = .agg #[.slice (sla (prt 0 (f 34))) ((bodiesOf es).length) (slc (prt 0 (f 34))), .slice (sla (prt 1 (f 34))) ((ropesOf (bodiesOf es) rs).length) (slc (prt 1 (f 34))), Ix (gx), Ix (gy)]⟩, ⟨[0, 1, 2, 3, 4, 5, 6], [0, 6], [], [35], fun f => f 35 = .bool true⟩, ⟨[0, 1, 2, 3, 4, 5, 6, 7], [7], [], [36], fun f => f 36 = .bool false⟩, ⟨[0, 1, 2, 3, 4, 5, 6, 7, 8], [8], [], [37], fun f => f 37 = .bool false⟩, ⟨[0, 1, 2, 3, 4, 5, 6, 7, 8, 9], [9], [3], [38], fun f => f 38 = .agg #[Ix (tick), .slice p25 (es.length) c26]⟩, ⟨[0, 1, 2, 3, 4, 5, 6, 7, 8, 9], [9], [1], [39], fun f => f 39 = .agg #[Ix (tick), .slice va (es.length) (vc)]⟩, ⟨[0, 1, 2, 3, 4, 5, 6, 7, 8, 9], [9], [2], [40], fun f => f 40 = .agg #[.slice bva (bs.length) (bvc), .slice rva (rs.length) (rvc), Ix (gx), Ix (gy)]⟩, ⟨[0, 1, 2, 3, 4, 5, 6, 7, 8, 9, 11, 12], [11, 12, 9], [], [41], fun f => f 41 = .agg #[Ix (tick), .slice (sla (prt 1 (f 41))) (es.length) (slc (prt 1 (f 41)))]⟩, ⟨[0, 1, 2, 3, 4, 5, 6, 7, 8, 9, 10, 11, 12, 13], [10, 13, 9], [], [42], fun f => f 42 = .bool true⟩, ⟨[0, 1, 2, 3, 4, 5, 6, 7, 8, 9, 10, 11, 12, 13, 14], [14, 9], [], [43], fun f => f 43 = .bool false⟩, ⟨[0, 1, 2, 3, 4, 5, 6, 7, 8, 9, 10, 11, 12, 13, 14, 15], [9, 15], [], [44], fun f => f 44 = .bool false⟩] [⟨none, none, [10], [], fun _ => pt b29 (.cells #[Ix (tick), .slice p25 (es.length) c26] 24)⟩, ⟨none, none, [14], [], fun _ => rowF HdF 59 p25 c26 hd27⟩, ⟨none, none, [14], [], fun _ => goodO 120 hd27 (es.map (backE bs))⟩, ⟨none, none, [0], [], fun _ => pt b24 (.cells #[.slice p20 ((bodiesOf es).length) c21, .slice p22 ((ropesOf (bodiesOf es) rs).length) c23, Ix (gx), Ix (gy)] 30)⟩, ⟨none, none, [7], [], fun _ => rowF BodyF 52 p20 c21 (bodiesOf es)⟩, ⟨none, none, [7], [], fun _ => rowF RopeF 78 p22 c23 (ropesOf (bodiesOf es) rs)⟩, ⟨none, none, [3, 5, 12], [], fun _ => pt b2 (.cells #[.slice bva (bs.length) (bvc), .slice rva (rs.length) (rvc), Ix (gx), Ix (gy)] 30)⟩, ⟨none, none, [1, 11], [], fun _ => pt b1 (.cells #[Ix (tick), .slice va (es.length) (vc)] 24)⟩, ⟨none, none, [], [], fun _ => lentX (sla (prt 1 (fa19 16))) (slc (prt 1 (fa19 16))) es⟩, ⟨none, none, [], [], fun _ => rowF BodyF 52 (sla (prt 0 (fa19 18))) (slc (prt 0 (fa19 18))) (lentL (markB 1) bs)⟩, ⟨none, none, [], [], fun _ => rowF RopeF 78 (sla (prt 1 (fa19 18))) (slc (prt 1 (fa19 18))) (lentL (markR 1) rs)⟩, ⟨none, none, [], [], fun _ => pt (blk (fa19 5)) (.cells #[Ix (tick), .slice (sla (prt 1 (fa19 16))) (es.length) (slc (prt 1 (fa19 16)))] 24)⟩, ⟨none, none, [], [], fun _ => pt (blk (fa19 6)) (.cells #[.slice (sla (prt 0 (fa19 18))) (bs.length) (slc (prt 0 (fa19 18))), .slice (sla (prt 1 (fa19 18))) (rs.length) (slc (prt 1 (fa19 18))), Ix (gx), Ix (gy)] 30)⟩, ⟨(some 6), none, [7], [34], fun f => rowF BodyF 52 (sla (prt 0 (f 34))) (slc (prt 0 (f 34))) (bodiesOf es)⟩, ⟨(some 6), none, [7], [34], fun f => rowF RopeF 78 (sla (prt 1 (f 34))) (slc (prt 1 (f 34))) (ropesOf (bodiesOf es) rs)⟩, ⟨(some 13), none, [14], [41], fun f => entsR (sla (prt 1 (f 41))) (slc (prt 1 (f 41))) (es.map (backE bs))⟩] [(7, .pointer (some ⟨b24, 0, none⟩)), (2, .pointer (some ⟨b1, 0, none⟩)), (3, .pointer (some ⟨b2, 0, none⟩)), (8, .pointer (some ⟨b29, 0, none⟩)), (5, .pointer (some ⟨(blk (fa19 5)), 0, none⟩)), (6, .pointer (some ⟨(blk (fa19 6)), 0, none⟩))] [1, 2, 4, 5, 0, 3] [] (by kernel_rfl) (by kernel_rfl) (by kernel_rfl) (by kernel_rfl) rfl ⟨rfl, rfl, rfl, rfl, rfl, rfl, trivial⟩ ⟨?_, ?_, ?_, ?_, ?_, ?_, ?_, ?_, ?_, ?_, ?_, ?_, ?_, ?_, ?_, ?_, ?_, trivial⟩ ?_
 ·rintro f M - ⟨i0, -⟩
  have hs7 : f 7 = .pointer (some ⟨b24, 0, none⟩) := i0
  refine ob_start (L' := pt b24 (.cells #[.slice p20 ((bodiesOf es).length) c21, .slice p22 ((ropesOf (bodiesOf es) rs).length) c23, Ix (gx), Ix (gy)] 30) :: M) (by rfl) (up_cons rfl hs7) ?_
  refine l_val (v := .agg #[.slice p20 ((bodiesOf es).length) c21, .slice p22 ((ropesOf (bodiesOf es) rs).length) c23, Ix (gx), Ix (gy)]) rfl rfl rfl (e_load tw25 (cs := [.slice p20 ((bodiesOf es).length) c21, .slice p22 ((ropesOf (bodiesOf es) rs).length) c23, Ix (gx), Ix (gy)]) rfl (k_pt 0 (cs := #[.slice p20 ((bodiesOf es).length) c21, .slice p22 ((ropesOf (bodiesOf es) rs).length) c23, Ix (gx), Ix (gy)]) (vs := [.slice p20 ((bodiesOf es).length) c21, .slice p22 ((ropesOf (bodiesOf es) rs).length) c23, Ix (gx), Ix (gy)]) rfl rfl) rfl) ?_
  refine l_nil ?_
  exact f_owes_d (up_cons rfl hs7) rfl (perm_front 0 rfl)
 ·rintro f M - ⟨i0, -⟩
  have hs2 : f 2 = .pointer (some ⟨b1, 0, none⟩) := i0
  refine ob_start (L' := pt b1 (.cells #[Ix (tick), .slice va (es.length) (vc)] 24) :: M) (by rfl) (up_cons rfl hs2) ?_
  refine l_val (v := .agg #[Ix (tick), .slice va (es.length) (vc)]) rfl rfl rfl (e_load tw48 (cs := [Ix (tick), .slice va (es.length) (vc)]) rfl (k_pt 0 (cs := #[Ix (tick), .slice va (es.length) (vc)]) (vs := [Ix (tick), .slice va (es.length) (vc)]) rfl rfl) rfl) ?_
  refine l_nil ?_
  exact f_owes_d (up_cons rfl hs2) rfl (perm_front 0 rfl)
 ·rintro f M - ⟨i0, -⟩
  have hs3 : f 3 = .pointer (some ⟨b2, 0, none⟩) := i0
  refine ob_start (L' := M) (by rfl) (up_cons rfl hs3) ?_
  refine l_val (v := .pointer (some ⟨b2, 1, none⟩)) rfl rfl rfl (e_fieldPt (b := b2) (o := 0) rfl tw40) ?_
  refine l_nil ?_
  exact f_owes_d (up_cons rfl hs3) rfl (List.Perm.refl _)
 ·rintro f M ⟨k0, -⟩ -
  have hs30 : f 30 = .pointer (some ⟨b2, 1, none⟩) := k0
  refine ob_start (L' := pt b2 (.cells #[.slice bva (bs.length) (bvc), .slice rva (rs.length) (rvc), Ix (gx), Ix (gy)] 30) :: M) (by rfl) (up_cons rfl hs30) ?_
  refine l_val (v := .slice rva (rs.length) (rvc)) rfl rfl rfl (e_load1 tw41 (v := .slice rva (rs.length) (rvc)) rfl (k_pt 0 (cs := #[.slice bva (bs.length) (bvc), .slice rva (rs.length) (rvc), Ix (gx), Ix (gy)]) (vs := [.slice rva (rs.length) (rvc)]) rfl rfl)) ?_
  refine l_nil ?_
  exact f_owes_d (up_cons rfl hs30) rfl (perm_front 0 rfl)
 ·rintro f M - ⟨i0, -⟩
  have hs3 : f 3 = .pointer (some ⟨b2, 0, none⟩) := i0
  refine ob_start (L' := M) (by rfl) (up_cons rfl hs3) ?_
  refine l_val (v := .pointer (some ⟨b2, 2, none⟩)) rfl rfl rfl (e_fieldPt (b := b2) (o := 0) rfl tw221) ?_
  refine l_nil ?_
  exact f_owes_d (up_cons rfl hs3) rfl (List.Perm.refl _)
 ·rintro f M ⟨k0, -⟩ -
  have hs32 : f 32 = .pointer (some ⟨b2, 2, none⟩) := k0
  refine ob_start (L' := pt b2 (.cells #[.slice bva (bs.length) (bvc), .slice rva (rs.length) (rvc), Ix (gx), Ix (gy)] 30) :: M) (by rfl) (up_cons rfl hs32) ?_
  refine l_val (v := .agg #[Ix (gx), Ix (gy)]) rfl rfl rfl (e_load tw22 (cs := [Ix (gx), Ix (gy)]) rfl (k_pt 0 (cs := #[.slice bva (bs.length) (bvc), .slice rva (rs.length) (rvc), Ix (gx), Ix (gy)]) (vs := [Ix (gx), Ix (gy)]) rfl rfl) rfl) ?_
  refine l_nil ?_
  exact f_owes_d (up_cons rfl hs32) rfl (perm_front 0 rfl)
 ·rintro f M ⟨k0, k1, k2, -⟩ -
  have hs29 : f 29 = .agg #[Ix (tick), .slice va (es.length) (vc)] := k0
  have hs31 : f 31 = .slice rva (rs.length) (rvc) := k1
  have hs33 : f 33 = .agg #[Ix (gx), Ix (gy)] := k2
  refine ob_start (L' := M) (by rfl) (up_cons (up_cons (up_cons rfl hs29) hs31) hs33) ?_
  refine l_call rfl rfl rfl (cl_value (fst := []) (cap := []) (vs := [.agg #[Ix (tick), .slice va (es.length) (vc)], .slice rva (rs.length) (rvc), .agg #[Ix (gx), Ix (gy)]]) (all := [.agg #[Ix (tick), .slice va (es.length) (vc)], .slice rva (rs.length) (rvc), .agg #[Ix (gx), Ix (gy)]]) tw57 rfl rfl rfl) ?_
  intro w hw
  obtain ⟨β1, sb, kn, hw1, back⟩ := St.frame_all hw
  refine (rbodies_ok β1 w hw1 _ _ _ (gx) (gy) es rs (Sl.mono _ _ _ _ _ sb (⟨⟨_, _, rfl, vl, vm, ve⟩⟩ : Sl EntR _ _ es)) (Sl.mono _ _ _ _ _ sb (⟨⟨_, _, rfl, rvl, rvm, rve⟩⟩ : Sl KRR _ _ rs)) hn hrn).mono ?_
  rintro e w' ⟨p34, c35, p36, c37, rfl, hw'⟩
  refine ⟨_, rfl, _, back _ _ hw', ?_⟩
  clear hw hw1 hw' back kn sb
  refine l_nil ?_
  exact f_owes_d (up_cons (up_cons (up_cons rfl hs29) hs31) hs33) rfl ((perm_front 1 rfl).trans (perm_front 1 rfl))
 ·rintro f M ⟨k0, k1, -⟩ -
  have hs28 : f 28 = .agg #[.slice p20 ((bodiesOf es).length) c21, .slice p22 ((ropesOf (bodiesOf es) rs).length) c23, Ix (gx), Ix (gy)] := k0
  have hs34 : f 34 = .agg #[.slice (sla (prt 0 (f 34))) ((bodiesOf es).length) (slc (prt 0 (f 34))), .slice (sla (prt 1 (f 34))) ((ropesOf (bodiesOf es) rs).length) (slc (prt 1 (f 34))), Ix (gx), Ix (gy)] := k1
  refine ob_start (L' := rowF BodyF 52 p20 c21 (bodiesOf es) :: rowF RopeF 78 p22 c23 (ropesOf (bodiesOf es) rs) :: rowF BodyF 52 (sla (prt 0 (f 34))) (slc (prt 0 (f 34))) (bodiesOf es) :: rowF RopeF 78 (sla (prt 1 (f 34))) (slc (prt 1 (f 34))) (ropesOf (bodiesOf es) rs) :: M) (by rfl) (up_cons (up_cons rfl hs28) hs34) ?_
  refine l_call rfl rfl rfl (cl_value (fst := []) (cap := []) (vs := [.agg #[.slice p20 ((bodiesOf es).length) c21, .slice p22 ((ropesOf (bodiesOf es) rs).length) c23, Ix (gx), Ix (gy)], .agg #[.slice (sla (prt 0 (f 34))) ((bodiesOf es).length) (slc (prt 0 (f 34))), .slice (sla (prt 1 (f 34))) ((ropesOf (bodiesOf es) rs).length) (slc (prt 1 (f 34))), Ix (gx), Ix (gy)]]) (all := [.agg #[.slice p20 ((bodiesOf es).length) c21, .slice p22 ((ropesOf (bodiesOf es) rs).length) c23, Ix (gx), Ix (gy)], .agg #[.slice (sla (prt 0 (f 34))) ((bodiesOf es).length) (slc (prt 0 (f 34))), .slice (sla (prt 1 (f 34))) ((ropesOf (bodiesOf es) rs).length) (slc (prt 1 (f 34))), Ix (gx), Ix (gy)]]) tw222 rfl rfl rfl) ?_
  intro w hw
  obtain ⟨β1, sb, kn, hw1, back⟩ := St.frame_all hw
  refine (eqScene_ok β1 w hw1 _ _ _ _ (gx) (gy) (bodiesOf es) (ropesOf (bodiesOf es) rs) (kn _ (k_flN 0 (F := BodyF) (m := (bodiesOf es).length) (xs := (bodiesOf es)) rfl rfl)) (kn _ (k_flN 1 (F := RopeF) (m := (ropesOf (bodiesOf es) rs).length) (xs := (ropesOf (bodiesOf es) rs)) rfl rfl)) (kn _ (k_flN 2 (F := BodyF) (m := (bodiesOf es).length) (xs := (bodiesOf es)) rfl rfl)) (kn _ (k_flN 3 (F := RopeF) (m := (ropesOf (bodiesOf es) rs).length) (xs := (ropesOf (bodiesOf es) rs)) rfl rfl))).mono ?_
  rintro e w' ⟨rfl, hw'⟩
  refine ⟨_, rfl, _, back _ _ hw', ?_⟩
  clear hw hw1 hw' back kn sb
  refine l_nil ?_
  exact f_owes_d (up_cons (up_cons rfl hs28) hs34) rfl ((((perm_front 3 rfl).trans (perm_front 3 rfl)).trans (perm_front 3 rfl)).trans (perm_front 3 rfl))
 ·rintro f M ⟨k0, -⟩ -
  have hs35 : f 35 = .bool true := k0
  refine ob_start (L' := M) (by rfl) (up_cons rfl hs35) ?_
  refine l_val (v := .bool false) rfl rfl rfl (e_not (a := true) rfl) ?_
  refine l_nil ?_
  exact f_owes_d (up_cons rfl hs35) rfl (List.Perm.refl _)
 ·rintro f M ⟨k0, -⟩ -
  have hs36 : f 36 = .bool false := k0
  refine ob_start (L' := M) (by rfl) (up_cons rfl hs36) ?_
  refine l_val (v := .bool false) rfl rfl rfl (e_move) ?_
  refine l_nil ?_
  exact f_owes_d (up_cons rfl hs36) rfl (List.Perm.refl _)
 ·rintro f M ⟨k0, -⟩ ⟨i0, -⟩
  have hs8 : f 8 = .pointer (some ⟨b29, 0, none⟩) := i0
  have hs37 : f 37 = .bool false := k0
  refine ob_start (L' := pt b29 (.cells #[Ix (tick), .slice p25 (es.length) c26] 24) :: M) (by rfl) (up_cons (up_cons rfl hs8) hs37) ?_
  refine g_val (v := .agg #[Ix (tick), .slice p25 (es.length) c26]) rfl rfl rfl rfl rfl (e_load tw48 (cs := [Ix (tick), .slice p25 (es.length) c26]) rfl (k_pt 0 (cs := #[Ix (tick), .slice p25 (es.length) c26]) (vs := [Ix (tick), .slice p25 (es.length) c26]) rfl rfl) rfl) ?_
  refine l_nil ?_
  exact f_owes_d (up_cons (up_cons rfl hs8) hs37) rfl (perm_front 0 rfl)
 ·rintro f M ⟨k0, -⟩ ⟨i0, -⟩
  have hs2 : f 2 = .pointer (some ⟨b1, 0, none⟩) := i0
  have hs37 : f 37 = .bool false := k0
  refine ob_start (L' := pt b1 (.cells #[Ix (tick), .slice va (es.length) (vc)] 24) :: M) (by rfl) (up_cons (up_cons rfl hs2) hs37) ?_
  refine g_val (v := .agg #[Ix (tick), .slice va (es.length) (vc)]) rfl rfl rfl rfl rfl (e_load tw48 (cs := [Ix (tick), .slice va (es.length) (vc)]) rfl (k_pt 0 (cs := #[Ix (tick), .slice va (es.length) (vc)]) (vs := [Ix (tick), .slice va (es.length) (vc)]) rfl rfl) rfl) ?_
  refine l_nil ?_
  exact f_owes_d (up_cons (up_cons rfl hs2) hs37) rfl (perm_front 0 rfl)
 ·rintro f M ⟨k0, -⟩ ⟨i0, -⟩
  have hs3 : f 3 = .pointer (some ⟨b2, 0, none⟩) := i0
  have hs37 : f 37 = .bool false := k0
  refine ob_start (L' := pt b2 (.cells #[.slice bva (bs.length) (bvc), .slice rva (rs.length) (rvc), Ix (gx), Ix (gy)] 30) :: M) (by rfl) (up_cons (up_cons rfl hs3) hs37) ?_
  refine g_val (v := .agg #[.slice bva (bs.length) (bvc), .slice rva (rs.length) (rvc), Ix (gx), Ix (gy)]) rfl rfl rfl rfl rfl (e_load tw25 (cs := [.slice bva (bs.length) (bvc), .slice rva (rs.length) (rvc), Ix (gx), Ix (gy)]) rfl (k_pt 0 (cs := #[.slice bva (bs.length) (bvc), .slice rva (rs.length) (rvc), Ix (gx), Ix (gy)]) (vs := [.slice bva (bs.length) (bvc), .slice rva (rs.length) (rvc), Ix (gx), Ix (gy)]) rfl rfl) rfl) ?_
  refine l_nil ?_
  exact f_owes_d (up_cons (up_cons rfl hs3) hs37) rfl (perm_front 0 rfl)
 ·rintro f M ⟨k0, k1, k2, -⟩ -
  have hs39 : f 39 = .agg #[Ix (tick), .slice va (es.length) (vc)] := k0
  have hs40 : f 40 = .agg #[.slice bva (bs.length) (bvc), .slice rva (rs.length) (rvc), Ix (gx), Ix (gy)] := k1
  have hs37 : f 37 = .bool false := k2
  refine ob_start (L' := M) (by rfl) (up_cons (up_cons (up_cons rfl hs39) hs40) hs37) ?_
  refine g_call rfl rfl rfl rfl rfl (cl_value (fst := []) (cap := []) (vs := [.agg #[Ix (tick), .slice va (es.length) (vc)], .agg #[.slice bva (bs.length) (bvc), .slice rva (rs.length) (rvc), Ix (gx), Ix (gy)]]) (all := [.agg #[Ix (tick), .slice va (es.length) (vc)], .agg #[.slice bva (bs.length) (bvc), .slice rva (rs.length) (rvc), Ix (gx), Ix (gy)]]) tw59 rfl rfl rfl) ?_
  intro w hw
  obtain ⟨β1, sb, kn, hw1, back⟩ := St.frame_all hw
  refine (rback_ok β1 w hw1 _ _ _ _ _ _ es bs (Sl.mono _ _ _ _ _ sb (⟨⟨_, _, rfl, vl, vm, ve⟩⟩ : Sl EntR _ _ es)) (Sl.mono _ _ _ _ _ sb (⟨⟨_, _, rfl, bvl, bvm, bve⟩⟩ : Sl KBR _ _ bs)) hn hcl).mono ?_
  rintro e w' ⟨p40, c41, rfl, hw'⟩
  refine ⟨_, rfl, _, back _ _ hw', ?_⟩
  clear hw hw1 hw' back kn sb
  refine l_nil ?_
  exact f_owes_d (up_cons (up_cons (up_cons rfl hs39) hs40) hs37) rfl (perm_front 0 rfl)
 ·rintro f M ⟨k0, k1, k2, -⟩ -
  have hs38 : f 38 = .agg #[Ix (tick), .slice p25 (es.length) c26] := k0
  have hs41 : f 41 = .agg #[Ix (tick), .slice (sla (prt 1 (f 41))) (es.length) (slc (prt 1 (f 41)))] := k1
  have hs37 : f 37 = .bool false := k2
  refine ob_start (L' := rowF HdF 59 p25 c26 hd27 :: goodO 120 hd27 (es.map (backE bs)) :: entsR (sla (prt 1 (f 41))) (slc (prt 1 (f 41))) (es.map (backE bs)) :: M) (by rfl) (up_cons (up_cons (up_cons rfl hs38) hs41) hs37) ?_
  refine g_call rfl rfl rfl rfl rfl (cl_value (fst := []) (cap := []) (vs := [.agg #[Ix (tick), .slice p25 (es.length) c26], .agg #[Ix (tick), .slice (sla (prt 1 (f 41))) (es.length) (slc (prt 1 (f 41)))]]) (all := [.agg #[Ix (tick), .slice p25 (es.length) c26], .agg #[Ix (tick), .slice (sla (prt 1 (f 41))) (es.length) (slc (prt 1 (f 41)))]]) tw99 rfl rfl rfl) ?_
  intro w hw
  obtain ⟨β1, sb, kn, hw1, back⟩ := St.frame_all hw
  refine (sameX_ok β1 w hw1 (tick) (es.map (backE bs)) _ _ (by simpa only [List.length_map] using kn _ (k_entsO 0 1 (zs := (es.map (backE bs))) rfl rfl)) (by simpa only [List.length_map] using kn _ (k_ents 2 (zs := (es.map (backE bs))) rfl))).mono ?_
  rintro e w' ⟨rfl, hw'⟩
  refine ⟨_, rfl, _, back _ _ hw', ?_⟩
  clear hw hw1 hw' back kn sb
  refine l_nil ?_
  exact f_owes_d (up_cons (up_cons (up_cons rfl hs38) hs41) hs37) rfl (((perm_front 2 rfl).trans (perm_front 2 rfl)).trans (perm_front 2 rfl))
 ·rintro f M ⟨k0, k1, -⟩ -
  have hs42 : f 42 = .bool true := k0
  have hs37 : f 37 = .bool false := k1
  refine ob_start (L' := M) (by rfl) (up_cons (up_cons rfl hs42) hs37) ?_
  refine g_val (v := .bool false) rfl rfl rfl rfl rfl (e_not (a := true) rfl) ?_
  refine l_nil ?_
  exact f_owes_d (up_cons (up_cons rfl hs42) hs37) rfl (List.Perm.refl _)
 ·rintro f M ⟨k0, k1, -⟩ -
  have hs37 : f 37 = .bool false := k0
  have hs43 : f 43 = .bool false := k1
  refine ob_start (L' := M) (by rfl) (up_cons (up_cons rfl hs37) hs43) ?_
  refine l_val (v := .bool false) rfl rfl rfl (e_pick_f rfl) ?_
  refine l_nil ?_
  exact f_owes_d (up_cons (up_cons rfl hs37) hs43) rfl (List.Perm.refl _)
 rintro fa42 ⟨-, -, -, -, -, -, -, -, -, -, -, -, -, -, -, -, k16, -⟩ ⟨j0, j1, j2, j3, j4, j5, -⟩
 refine f_re (L' := [pt b29 (.cells #[Ix (tick), .slice p25 (es.length) c26] 24), rowF HdF 59 p25 c26 hd27, goodO 120 hd27 (es.map (backE bs)), pt b24 (.cells #[.slice p20 ((bodiesOf es).length) c21, .slice p22 ((ropesOf (bodiesOf es) rs).length) c23, Ix (gx), Ix (gy)] 30), rowF BodyF 52 p20 c21 (bodiesOf es), rowF RopeF 78 p22 c23 (ropesOf (bodiesOf es) rs), pt b2 (.cells #[.slice bva (bs.length) (bvc), .slice rva (rs.length) (rvc), Ix (gx), Ix (gy)] 30), pt b1 (.cells #[Ix (tick), .slice va (es.length) (vc)] 24), lentX (sla (prt 1 (fa19 16))) (slc (prt 1 (fa19 16))) es, rowF BodyF 52 (sla (prt 0 (fa19 18))) (slc (prt 0 (fa19 18))) (lentL (markB 1) bs), rowF RopeF 78 (sla (prt 1 (fa19 18))) (slc (prt 1 (fa19 18))) (lentL (markR 1) rs), pt (blk (fa19 5)) (.cells #[Ix (tick), .slice (sla (prt 1 (fa19 16))) (es.length) (slc (prt 1 (fa19 16)))] 24), pt (blk (fa19 6)) (.cells #[.slice (sla (prt 0 (fa19 18))) (bs.length) (slc (prt 0 (fa19 18))), .slice (sla (prt 1 (fa19 18))) (rs.length) (slc (prt 1 (fa19 18))), Ix (gx), Ix (gy)] 30), rowF BodyF 52 (sla (prt 0 (fa42 34))) (slc (prt 0 (fa42 34))) (bodiesOf es), rowF RopeF 78 (sla (prt 1 (fa42 34))) (slc (prt 1 (fa42 34))) (ropesOf (bodiesOf es) rs), entsR (sla (prt 1 (fa42 41))) (slc (prt 1 (fa42 41))) (es.map (backE bs))]) (by rfl) ?_
 refine f_rebase (d := 2) (v := .pointer (some ⟨b1, 0, none⟩)) j0 ?_
 refine f_rebase (d := 3) (v := .pointer (some ⟨b2, 0, none⟩)) j1 ?_
 refine f_rebase (d := 5) (v := .pointer (some ⟨(blk (fa19 5)), 0, none⟩)) j2 ?_
 refine f_rebase (d := 6) (v := .pointer (some ⟨(blk (fa19 6)), 0, none⟩)) j3 ?_
 refine f_rebase (d := 7) (v := .pointer (some ⟨b24, 0, none⟩)) j4 ?_
 refine f_rebase (d := 8) (v := .pointer (some ⟨b29, 0, none⟩)) j5 ?_
 refine f_rebase (d := 44) (v := .bool false) k16 ?_
 refine f_then ?_
 refine c_no rfl ?_
 refine c_skip ?_
 refine f_then ?_
 refine c_seq_cut (fun (f : Fm) (L : List Res) => ∃ (u_ : Unit), (f 2 = .pointer (some ⟨b1, 0, none⟩) ∧ f 3 = .pointer (some ⟨b2, 0, none⟩) ∧ f 5 = .pointer (some ⟨(blk (fa19 5)), 0, none⟩) ∧ f 6 = .pointer (some ⟨(blk (fa19 6)), 0, none⟩) ∧ f 7 = .pointer (some ⟨b24, 0, none⟩)) ∧ L = [pt b24 (.cells #[.slice p20 ((bodiesOf es).length) c21, .slice p22 ((ropesOf (bodiesOf es) rs).length) c23, Ix (gx), Ix (gy)] 30), rowF BodyF 52 p20 c21 (bodiesOf es), rowF RopeF 78 p22 c23 (ropesOf (bodiesOf es) rs), pt b2 (.cells #[.slice bva (bs.length) (bvc), .slice rva (rs.length) (rvc), Ix (gx), Ix (gy)] 30), pt b1 (.cells #[Ix (tick), .slice va (es.length) (vc)] 24), lentX (sla (prt 1 (fa19 16))) (slc (prt 1 (fa19 16))) es, rowF BodyF 52 (sla (prt 0 (fa19 18))) (slc (prt 0 (fa19 18))) (lentL (markB 1) bs), rowF RopeF 78 (sla (prt 1 (fa19 18))) (slc (prt 1 (fa19 18))) (lentL (markR 1) rs), pt (blk (fa19 5)) (.cells #[Ix (tick), .slice (sla (prt 1 (fa19 16))) (es.length) (slc (prt 1 (fa19 16)))] 24), pt (blk (fa19 6)) (.cells #[.slice (sla (prt 0 (fa19 18))) (bs.length) (slc (prt 0 (fa19 18))), .slice (sla (prt 1 (fa19 18))) (rs.length) (slc (prt 1 (fa19 18))), Ix (gx), Ix (gy)] 30)] ∧ (True)) ?_ ?_
 ·
  refine c_seq ?_
  refine c_mask [true, true, true, true, true, true, true, true, true, true, true, true, true, false, false, false] rfl ?_
  refine c_region ?_
  refine l_val (v := .agg #[.slice p20 ((bodiesOf es).length) c21, .slice p22 ((ropesOf (bodiesOf es) rs).length) c23, Ix (gx), Ix (gy)]) rfl rfl rfl (e_load tw25 (cs := [.slice p20 ((bodiesOf es).length) c21, .slice p22 ((ropesOf (bodiesOf es) rs).length) c23, Ix (gx), Ix (gy)]) rfl (k_pt 3 (cs := #[.slice p20 ((bodiesOf es).length) c21, .slice p22 ((ropesOf (bodiesOf es) rs).length) c23, Ix (gx), Ix (gy)]) (vs := [.slice p20 ((bodiesOf es).length) c21, .slice p22 ((ropesOf (bodiesOf es) rs).length) c23, Ix (gx), Ix (gy)]) rfl rfl) rfl) ?_
  refine l_call rfl rfl rfl (cl_value (fst := []) (cap := []) (vs := [.agg #[.slice p20 ((bodiesOf es).length) c21, .slice p22 ((ropesOf (bodiesOf es) rs).length) c23, Ix (gx), Ix (gy)]]) (all := [.agg #[.slice p20 ((bodiesOf es).length) c21, .slice p22 ((ropesOf (bodiesOf es) rs).length) c23, Ix (gx), Ix (gy)]]) tw223 rfl rfl rfl) ?_
  intro w hw
  obtain ⟨β1, sb, kn, hw1, back⟩ := St.frame_all hw
  refine (few_ok β1 w hw1 _ _ gx gy (bodiesOf es) (ropesOf (bodiesOf es) rs) (kn _ (k_flN 4 (F := BodyF) (m := (bodiesOf es).length) (xs := (bodiesOf es)) rfl rfl)) (kn _ (k_flN 5 (F := RopeF) (m := (ropesOf (bodiesOf es) rs).length) (xs := (ropesOf (bodiesOf es) rs)) rfl rfl))).mono ?_
  rintro e w' ⟨fb43, rfl, -, hw'⟩
  refine ⟨_, rfl, _, back _ _ hw', ?_⟩
  clear hw hw1 hw' back kn sb
  refine l_nil ?_
  refine f_then ?_
  refine c_ifb (fb43) rfl (fun hc44 => ?_) (fun hc44 => ?_)
  ·
   refine c_seq ?_
   refine c_region ?_
   refine l_val (v := .agg #[Ix (tick), .slice (sla (prt 1 (fa19 16))) (es.length) (slc (prt 1 (fa19 16)))]) rfl rfl rfl (e_load tw48 (cs := [Ix (tick), .slice (sla (prt 1 (fa19 16))) (es.length) (slc (prt 1 (fa19 16)))]) rfl (k_pt 11 (cs := #[Ix (tick), .slice (sla (prt 1 (fa19 16))) (es.length) (slc (prt 1 (fa19 16)))]) (vs := [Ix (tick), .slice (sla (prt 1 (fa19 16))) (es.length) (slc (prt 1 (fa19 16)))]) rfl rfl) rfl) ?_
   refine l_val (v := .pointer (some ⟨(blk (fa19 6)), 1, none⟩)) rfl rfl rfl (e_fieldPt (b := (blk (fa19 6))) (o := 0) rfl tw40) ?_
   refine l_val (v := .slice (sla (prt 1 (fa19 18))) (rs.length) (slc (prt 1 (fa19 18)))) rfl rfl rfl (e_load1 tw41 (v := .slice (sla (prt 1 (fa19 18))) (rs.length) (slc (prt 1 (fa19 18)))) rfl (k_pt 12 (cs := #[.slice (sla (prt 0 (fa19 18))) (bs.length) (slc (prt 0 (fa19 18))), .slice (sla (prt 1 (fa19 18))) (rs.length) (slc (prt 1 (fa19 18))), Ix (gx), Ix (gy)]) (vs := [.slice (sla (prt 1 (fa19 18))) (rs.length) (slc (prt 1 (fa19 18)))]) rfl rfl)) ?_
   refine l_val (v := .pointer (some ⟨b2, 2, none⟩)) rfl rfl rfl (e_fieldPt (b := b2) (o := 0) rfl tw221) ?_
   refine l_val (v := .agg #[Ix (gx), Ix (gy)]) rfl rfl rfl (e_load tw22 (cs := [Ix (gx), Ix (gy)]) rfl (k_pt 6 (cs := #[.slice bva (bs.length) (bvc), .slice rva (rs.length) (rvc), Ix (gx), Ix (gy)]) (vs := [Ix (gx), Ix (gy)]) rfl rfl) rfl) ?_
   refine l_call rfl rfl rfl (cl_value (fst := []) (cap := []) (vs := [.agg #[Ix (tick), .slice (sla (prt 1 (fa19 16))) (es.length) (slc (prt 1 (fa19 16)))], .slice (sla (prt 1 (fa19 18))) (rs.length) (slc (prt 1 (fa19 18))), .agg #[Ix (gx), Ix (gy)]]) (all := [.agg #[Ix (tick), .slice (sla (prt 1 (fa19 16))) (es.length) (slc (prt 1 (fa19 16)))], .slice (sla (prt 1 (fa19 18))) (rs.length) (slc (prt 1 (fa19 18))), .agg #[Ix (gx), Ix (gy)]]) tw224 rfl rfl rfl) ?_
   intro w hw
   obtain ⟨β1, sb, kn, hw1, back⟩ := St.frame_all hw
   refine (worldU_ok β1 w hw1 _ _ _ gx gy es rs (le_sl (kn _ (k_lentX 8 rfl))) (kn _ (k_flPre 10 (F := RopeF) (xs := rs) rfl rfl)) hn hrn hcl hgx hgy (GR.mono sb hG) tkW EW SW eW hW).mono ?_
   rintro e w' ⟨p45, c46, hd47, p48, c49, hl50, rfl, hw'⟩
   refine ⟨_, rfl, _, back _ _ hw', ?_⟩
   clear hw hw1 hw' back kn sb
   refine l_val (v := .tuple #[.agg #[Ix (tkW), .slice p45 (EW.length) c46], .slice p48 (SW.length) c49, Ix (eW)]) rfl rfl rfl (e_move) ?_
   refine l_val (v := .agg #[Ix (tkW), .slice p45 (EW.length) c46]) rfl rfl rfl (e_extract (vs := #[.agg #[Ix (tkW), .slice p45 (EW.length) c46], .slice p48 (SW.length) c49, Ix (eW)]) rfl rfl) ?_
   refine l_val (v := .slice p48 (SW.length) c49) rfl rfl rfl (e_extract (vs := #[.agg #[Ix (tkW), .slice p45 (EW.length) c46], .slice p48 (SW.length) c49, Ix (eW)]) rfl rfl) ?_
   refine l_val (v := Ix (eW)) rfl rfl rfl (e_extract (vs := #[.agg #[Ix (tkW), .slice p45 (EW.length) c46], .slice p48 (SW.length) c49, Ix (eW)]) rfl rfl) ?_
   refine l_mv rfl rfl rfl (m_alloc tw45) ?_
   rintro _ _ ⟨b51, rfl, rfl⟩
   refine l_mu rfl rfl (m_store 0 tw48 (b := b51) (o := 0) (T := 24) (cs := #[.int .i64 (0), .slice none 0 0]) (cs' := #[Ix (tkW), .slice p45 (EW.length) c46]) (v := .agg #[Ix (tkW), .slice p45 (EW.length) c46]) rfl rfl rfl rfl rfl rfl rfl) ?_
   refine l_val (v := .slice p48 (SW.length) c49) rfl rfl rfl (e_assign) ?_
   refine l_val (v := Ix (eW)) rfl rfl rfl (e_assign) ?_
   refine l_nil ?_
   refine f_then ?_
   refine c_seq ?_
   refine c_region ?_
   refine l_val (v := .agg #[Ix (tick), .slice va (es.length) (vc)]) rfl rfl rfl (e_load tw48 (cs := [Ix (tick), .slice va (es.length) (vc)]) rfl (k_pt 11 (cs := #[Ix (tick), .slice va (es.length) (vc)]) (vs := [Ix (tick), .slice va (es.length) (vc)]) rfl rfl) rfl) ?_
   refine l_val (v := .pointer (some ⟨b2, 1, none⟩)) rfl rfl rfl (e_fieldPt (b := b2) (o := 0) rfl tw40) ?_
   refine l_val (v := .slice rva (rs.length) (rvc)) rfl rfl rfl (e_load1 tw41 (v := .slice rva (rs.length) (rvc)) rfl (k_pt 10 (cs := #[.slice bva (bs.length) (bvc), .slice rva (rs.length) (rvc), Ix (gx), Ix (gy)]) (vs := [.slice rva (rs.length) (rvc)]) rfl rfl)) ?_
   refine l_val (v := .pointer (some ⟨b2, 2, none⟩)) rfl rfl rfl (e_fieldPt (b := b2) (o := 0) rfl tw221) ?_
   refine l_val (v := .agg #[Ix (gx), Ix (gy)]) rfl rfl rfl (e_load tw22 (cs := [Ix (gx), Ix (gy)]) rfl (k_pt 10 (cs := #[.slice bva (bs.length) (bvc), .slice rva (rs.length) (rvc), Ix (gx), Ix (gy)]) (vs := [Ix (gx), Ix (gy)]) rfl rfl) rfl) ?_
   refine l_call rfl rfl rfl (cl_value (fst := []) (cap := []) (vs := [.agg #[Ix (tick), .slice va (es.length) (vc)], .slice rva (rs.length) (rvc), .agg #[Ix (gx), Ix (gy)]]) (all := [.agg #[Ix (tick), .slice va (es.length) (vc)], .slice rva (rs.length) (rvc), .agg #[Ix (gx), Ix (gy)]]) tw225 rfl rfl rfl) ?_
   intro w hw
   obtain ⟨β1, sb, kn, hw1, back⟩ := St.frame_all hw
   refine (rworldU_ok β1 w hw1 _ _ _ gx gy es rs (Sl.mono _ _ _ _ _ sb (⟨⟨_, _, rfl, vl, vm, ve⟩⟩ : Sl EntR _ _ es)) (Sl.mono _ _ _ _ _ sb (⟨⟨_, _, rfl, rvl, rvm, rve⟩⟩ : Sl KRR _ _ rs)) hn hrn hcl tkW EW SW eW hW).mono ?_
   rintro e w' ⟨p52, c53, p55, c56, rfl, hw'⟩
   refine ⟨_, rfl, _, back _ _ hw', ?_⟩
   clear hw hw1 hw' back kn sb
   refine l_val (v := .tuple #[.agg #[Ix (tkW), .slice p52 (EW.length) c53], .slice p55 (SW.length) c56, Ix (eW)]) rfl rfl rfl (e_move) ?_
   refine l_val (v := .agg #[Ix (tkW), .slice p52 (EW.length) c53]) rfl rfl rfl (e_extract (vs := #[.agg #[Ix (tkW), .slice p52 (EW.length) c53], .slice p55 (SW.length) c56, Ix (eW)]) rfl rfl) ?_
   refine l_val (v := .slice p55 (SW.length) c56) rfl rfl rfl (e_extract (vs := #[.agg #[Ix (tkW), .slice p52 (EW.length) c53], .slice p55 (SW.length) c56, Ix (eW)]) rfl rfl) ?_
   refine l_val (v := Ix (eW)) rfl rfl rfl (e_extract (vs := #[.agg #[Ix (tkW), .slice p52 (EW.length) c53], .slice p55 (SW.length) c56, Ix (eW)]) rfl rfl) ?_
   refine l_mv rfl rfl rfl (m_alloc tw45) ?_
   rintro _ _ ⟨b58, rfl, rfl⟩
   refine l_mu rfl rfl (m_store 0 tw48 (b := b58) (o := 0) (T := 24) (cs := #[.int .i64 (0), .slice none 0 0]) (cs' := #[Ix (tkW), .slice p52 (EW.length) c53]) (v := .agg #[Ix (tkW), .slice p52 (EW.length) c53]) rfl rfl rfl rfl rfl rfl rfl) ?_
   refine l_val (v := .slice p55 (SW.length) c56) rfl rfl rfl (e_assign) ?_
   refine l_val (v := Ix (eW)) rfl rfl rfl (e_assign) ?_
   refine l_nil ?_
   refine f_then ?_
   refine c_seq ?_
   refine c_region ?_
   refine l_val (v := Ix (eW)) rfl rfl rfl (e_move) ?_
   refine l_val (v := Ix (eW)) rfl rfl rfl (e_move) ?_
   refine l_val (v := .bool (decide ((eW) ≠ (eW)))) rfl rfl rfl (e_neq (a := (eW)) (b := (eW)) rfl rfl) ?_
   refine l_val (v := .bool (decide ((eW) ≠ (eW)))) rfl rfl rfl (e_move) ?_
   refine l_split (s := 70) (p := (eW) ≠ (eW)) rfl (fun h => ?_) (fun h => ?_)
   exact absurd h (fun q => q rfl)
   refine g_val (v := .agg #[Ix (tkW), .slice p45 (EW.length) c46]) rfl rfl rfl rfl rfl (e_load tw48 (cs := [Ix (tkW), .slice p45 (EW.length) c46]) rfl (k_pt 3 (cs := #[Ix (tkW), .slice p45 (EW.length) c46]) (vs := [Ix (tkW), .slice p45 (EW.length) c46]) rfl rfl) rfl) ?_
   refine g_val (v := .agg #[Ix (tkW), .slice p52 (EW.length) c53]) rfl rfl rfl rfl rfl (e_load tw48 (cs := [Ix (tkW), .slice p52 (EW.length) c53]) rfl (k_pt 0 (cs := #[Ix (tkW), .slice p52 (EW.length) c53]) (vs := [Ix (tkW), .slice p52 (EW.length) c53]) rfl rfl) rfl) ?_
   refine g_call rfl rfl rfl rfl rfl (cl_value (fst := []) (cap := []) (vs := [.agg #[Ix (tkW), .slice p45 (EW.length) c46], .agg #[Ix (tkW), .slice p52 (EW.length) c53]]) (all := [.agg #[Ix (tkW), .slice p45 (EW.length) c46], .agg #[Ix (tkW), .slice p52 (EW.length) c53]]) tw99 rfl rfl rfl) ?_
   intro w hw
   obtain ⟨β1, sb, kn, hw1, back⟩ := St.frame_all hw
   refine (sameX_ok β1 w hw1 (tkW) EW _ _ (kn _ (k_entsO 4 5 rfl rfl)) (kn _ (k_ents 1 rfl))).mono ?_
   rintro e w' ⟨rfl, hw'⟩
   refine ⟨_, rfl, _, back _ _ hw', ?_⟩
   clear hw hw1 hw' back kn sb
   refine g_val (v := .bool false) rfl rfl rfl rfl rfl (e_not (a := true) rfl) ?_
   refine l_val (v := .bool false) rfl rfl rfl (e_pick_f rfl) ?_
   refine l_val (v := .bool false) rfl rfl rfl (e_move) ?_
   refine g_val (v := .slice p48 (SW.length) c49) rfl rfl rfl rfl rfl (e_move) ?_
   refine g_val (v := .slice p55 (SW.length) c56) rfl rfl rfl rfl rfl (e_move) ?_
   refine g_call rfl rfl rfl rfl rfl (cl_value (fst := []) (cap := []) (vs := [.slice p48 (SW.length) c49, .slice p55 (SW.length) c56]) (all := [.slice p48 (SW.length) c49, .slice p55 (SW.length) c56]) tw226 rfl rfl rfl) ?_
   intro w hw
   obtain ⟨β1, sb, kn, hw1, back⟩ := St.frame_all hw
   refine (eqS_ok β1 w hw1 _ _ SW (kn _ (k_flN 6 (F := StopF) (m := SW.length) (xs := SW) rfl rfl)) (kn _ (k_flN 2 (F := StopF) (m := SW.length) (xs := SW) rfl rfl))).mono ?_
   rintro e w' ⟨rfl, hw'⟩
   refine ⟨_, rfl, _, back _ _ hw', ?_⟩
   clear hw hw1 hw' back kn sb
   refine g_val (v := .bool false) rfl rfl rfl rfl rfl (e_not (a := true) rfl) ?_
   refine l_val (v := .bool false) rfl rfl rfl (e_pick_f rfl) ?_
   refine l_val (v := .bool false) rfl rfl rfl (e_move) ?_
   refine g_val (v := .agg #[Ix (tick), .slice p25 (es.length) c26]) rfl rfl rfl rfl rfl (e_load tw48 (cs := [Ix (tick), .slice p25 (es.length) c26]) rfl (k_pt 7 (cs := #[Ix (tick), .slice p25 (es.length) c26]) (vs := [Ix (tick), .slice p25 (es.length) c26]) rfl rfl) rfl) ?_
   refine g_mv rfl rfl rfl rfl rfl (m_slices tw95 tw45 (vs := [(0, .agg #[Ix (tick), .slice p25 (es.length) c26])]) (cells := #[Ix (tick), .slice p25 (es.length) c26]) rfl rfl rfl rfl) ?_
   rintro _ _ ⟨b59, rfl, rfl⟩
   refine g_val (v := .agg #[Ix (tkW), .slice p45 (EW.length) c46]) rfl rfl rfl rfl rfl (e_load tw48 (cs := [Ix (tkW), .slice p45 (EW.length) c46]) rfl (k_pt 4 (cs := #[Ix (tkW), .slice p45 (EW.length) c46]) (vs := [Ix (tkW), .slice p45 (EW.length) c46]) rfl rfl) rfl) ?_
   refine g_mv rfl rfl rfl rfl rfl (m_slices tw95 tw45 (vs := [(0, .agg #[Ix (tkW), .slice p45 (EW.length) c46])]) (cells := #[Ix (tkW), .slice p45 (EW.length) c46]) rfl rfl rfl rfl) ?_
   rintro _ _ ⟨b60, rfl, rfl⟩
   refine g_mv rfl rfl rfl rfl rfl (m_slices tw91 tw97 (vs := [(0, .slice (some ⟨b59, 0, none⟩) 1 1), (1, .slice (some ⟨b60, 0, none⟩) 1 1)]) (cells := #[.slice (some ⟨b59, 0, none⟩) 1 1, .slice (some ⟨b60, 0, none⟩) 1 1]) rfl rfl rfl rfl) ?_
   rintro _ _ ⟨b61, rfl, rfl⟩
   refine g_call rfl rfl rfl rfl rfl (cl_value (fst := []) (cap := []) (vs := [.slice (some ⟨b61, 0, none⟩) 2 2]) (all := [.slice (some ⟨b61, 0, none⟩) 2 2]) tw227 rfl rfl rfl) ?_
   intro w hw
   replace hw := hw.perm (L' := [pt b59 (.cells #[Ix (tick), .slice p25 (es.length) c26] 24), pt b60 (.cells #[Ix (tkW), .slice p45 (EW.length) c46] 24), rowF HdF 59 p25 c26 hd27, rowF HdF 59 p45 c46 hd47, goodO 120 hd27 (es.map (backE bs)), goodO 120 hd47 EW, pt b61 (.cells #[.slice (some ⟨b59, 0, none⟩) 1 1, .slice (some ⟨b60, 0, none⟩) 1 1] 68), pt b58 (.cells #[Ix (tkW), .slice p52 (EW.length) c53] 24), entsR p52 c53 EW, rowF StopF 55 p55 c56 SW, pt b51 (.cells #[Ix (tkW), .slice p45 (EW.length) c46] 24), rowF StopF 55 p48 c49 SW, pt b29 (.cells #[Ix (tick), .slice p25 (es.length) c26] 24), pt b24 (.cells #[.slice p20 ((bodiesOf es).length) c21, .slice p22 ((ropesOf (bodiesOf es) rs).length) c23, Ix (gx), Ix (gy)] 30), rowF BodyF 52 p20 c21 (bodiesOf es), rowF RopeF 78 p22 c23 (ropesOf (bodiesOf es) rs), pt b2 (.cells #[.slice bva (bs.length) (bvc), .slice rva (rs.length) (rvc), Ix (gx), Ix (gy)] 30), pt b1 (.cells #[Ix (tick), .slice va (es.length) (vc)] 24), lentX (sla (prt 1 (fa19 16))) (slc (prt 1 (fa19 16))) es, rowF BodyF 52 (sla (prt 0 (fa19 18))) (slc (prt 0 (fa19 18))) (lentL (markB 1) bs), rowF RopeF 78 (sla (prt 1 (fa19 18))) (slc (prt 1 (fa19 18))) (lentL (markR 1) rs), pt (blk (fa19 5)) (.cells #[Ix (tick), .slice (sla (prt 1 (fa19 16))) (es.length) (slc (prt 1 (fa19 16)))] 24), pt (blk (fa19 6)) (.cells #[.slice (sla (prt 0 (fa19 18))) (bs.length) (slc (prt 0 (fa19 18))), .slice (sla (prt 1 (fa19 18))) (rs.length) (slc (prt 1 (fa19 18))), Ix (gx), Ix (gy)] 30)]) (by exact (perm_ix [2, 1, 11, 7, 12, 8, 0, 3, 4, 5, 6, 9, 10, 13, 14, 15, 16, 17, 18, 19, 20, 21, 22] 23 rfl (by kernel_rfl) (by kernel_rfl)))
   obtain ⟨β1, sb, kn, hw1, back⟩ := St.frame (L := [_, _, _, _, _, _]) (M := _ :: _ :: _ :: _ :: _ :: _ :: _ :: _ :: _ :: _ :: _ :: _ :: _ :: _ :: _ :: _ :: _ :: []) hw
   refine (apartO_ok β1 w b59 b60 b61 _ _ _ _ _ _ (es.map (backE bs)) _ _ _ _ EW (kn _ (k_ptFls (F := H3F) 0 (m := 2) (xs := [(⟨some ⟨b59, 0, none⟩, 1, 1⟩ : H3), ⟨some ⟨b60, 0, none⟩, 1, 1⟩]) rfl rfl rfl (by simp))) (by simpa using hl28) (by simpa using hl50) (by omega) (by omega) (back_comps (fun e he => by have := hcl8 e he; omega)) (fun e he => by have := hWb.2 e he; omega) hw1).mono ?_
   rintro e w' ⟨rfl, hw'⟩
   refine ⟨_, rfl, _, back _ _ hw', ?_⟩
   clear hw hw1 hw' back kn sb
   refine g_val (v := .bool false) rfl rfl rfl rfl rfl (e_not (a := true) rfl) ?_
   refine l_val (v := .bool false) rfl rfl rfl (e_pick_f rfl) ?_
   refine l_nil ?_
   refine f_then ?_
   refine c_no rfl ?_
   refine c_skip ?_
   refine f_mask (L' := [pt b24 (.cells #[.slice p20 ((bodiesOf es).length) c21, .slice p22 ((ropesOf (bodiesOf es) rs).length) c23, Ix (gx), Ix (gy)] 30), rowF BodyF 52 p20 c21 (bodiesOf es), rowF RopeF 78 p22 c23 (ropesOf (bodiesOf es) rs), pt b2 (.cells #[.slice bva (bs.length) (bvc), .slice rva (rs.length) (rvc), Ix (gx), Ix (gy)] 30), pt b1 (.cells #[Ix (tick), .slice va (es.length) (vc)] 24), lentX (sla (prt 1 (fa19 16))) (slc (prt 1 (fa19 16))) es, rowF BodyF 52 (sla (prt 0 (fa19 18))) (slc (prt 0 (fa19 18))) (lentL (markB 1) bs), rowF RopeF 78 (sla (prt 1 (fa19 18))) (slc (prt 1 (fa19 18))) (lentL (markR 1) rs), pt (blk (fa19 5)) (.cells #[Ix (tick), .slice (sla (prt 1 (fa19 16))) (es.length) (slc (prt 1 (fa19 16)))] 24), pt (blk (fa19 6)) (.cells #[.slice (sla (prt 0 (fa19 18))) (bs.length) (slc (prt 0 (fa19 18))), .slice (sla (prt 1 (fa19 18))) (rs.length) (slc (prt 1 (fa19 18))), Ix (gx), Ix (gy)] 30)]) [false, false, false, false, false, false, false, true, true, true, true, true, true, true, true, true, true] rfl ?_
   exact f_cut ⟨(), ⟨rfl, rfl, rfl, rfl, rfl⟩, rfl, trivial⟩
  ·
   refine c_skip ?_
   refine f_mask (L' := [pt b24 (.cells #[.slice p20 ((bodiesOf es).length) c21, .slice p22 ((ropesOf (bodiesOf es) rs).length) c23, Ix (gx), Ix (gy)] 30), rowF BodyF 52 p20 c21 (bodiesOf es), rowF RopeF 78 p22 c23 (ropesOf (bodiesOf es) rs), pt b2 (.cells #[.slice bva (bs.length) (bvc), .slice rva (rs.length) (rvc), Ix (gx), Ix (gy)] 30), pt b1 (.cells #[Ix (tick), .slice va (es.length) (vc)] 24), lentX (sla (prt 1 (fa19 16))) (slc (prt 1 (fa19 16))) es, rowF BodyF 52 (sla (prt 0 (fa19 18))) (slc (prt 0 (fa19 18))) (lentL (markB 1) bs), rowF RopeF 78 (sla (prt 1 (fa19 18))) (slc (prt 1 (fa19 18))) (lentL (markR 1) rs), pt (blk (fa19 5)) (.cells #[Ix (tick), .slice (sla (prt 1 (fa19 16))) (es.length) (slc (prt 1 (fa19 16)))] 24), pt (blk (fa19 6)) (.cells #[.slice (sla (prt 0 (fa19 18))) (bs.length) (slc (prt 0 (fa19 18))), .slice (sla (prt 1 (fa19 18))) (rs.length) (slc (prt 1 (fa19 18))), Ix (gx), Ix (gy)] 30)]) [false, false, false, true, true, true, true, true, true, true, true, true, true] rfl ?_
   exact f_cut ⟨(), ⟨rfl, rfl, rfl, rfl, rfl⟩, rfl, trivial⟩
 rintro f0 L0 ⟨u_, ⟨hs2, hs3, hs5, hs6, hs7⟩, hL, -⟩
 subst L0
 refine rebase (d := 2) hs2 ?_
 refine rebase (d := 3) hs3 ?_
 refine rebase (d := 5) hs5 ?_
 refine rebase (d := 6) hs6 ?_
 refine rebase (d := 7) hs7 ?_
 clear hs2 hs3 hs5 hs6 hs7
 refine c_seq ?_
 refine c_seq ?_
 refine c_region ?_
 refine l_val (v := .agg #[Ix (tick), .slice (sla (prt 1 (fa19 16))) (es.length) (slc (prt 1 (fa19 16)))]) rfl rfl rfl (e_load tw48 (cs := [Ix (tick), .slice (sla (prt 1 (fa19 16))) (es.length) (slc (prt 1 (fa19 16)))]) rfl (k_pt 8 (cs := #[Ix (tick), .slice (sla (prt 1 (fa19 16))) (es.length) (slc (prt 1 (fa19 16)))]) (vs := [Ix (tick), .slice (sla (prt 1 (fa19 16))) (es.length) (slc (prt 1 (fa19 16)))]) rfl rfl) rfl) ?_
 refine l_val (v := .agg #[Ix (tick), .slice va (es.length) (vc)]) rfl rfl rfl (e_load tw48 (cs := [Ix (tick), .slice va (es.length) (vc)]) rfl (k_pt 4 (cs := #[Ix (tick), .slice va (es.length) (vc)]) (vs := [Ix (tick), .slice va (es.length) (vc)]) rfl rfl) rfl) ?_
 refine l_call rfl rfl rfl (cl_value (fst := []) (cap := []) (vs := [.agg #[Ix (tick), .slice (sla (prt 1 (fa19 16))) (es.length) (slc (prt 1 (fa19 16)))], .agg #[Ix (tick), .slice va (es.length) (vc)]]) (all := [.agg #[Ix (tick), .slice (sla (prt 1 (fa19 16))) (es.length) (slc (prt 1 (fa19 16)))], .agg #[Ix (tick), .slice va (es.length) (vc)]]) tw228 rfl rfl rfl) ?_
 intro w hw
 obtain ⟨β1, sb, kn, hw1, back⟩ := St.frame_all hw
 refine (keptX_ok β1 w hw1 (tick) es _ _ (kn _ (k_lentX 5 rfl)) (Sl.mono _ _ _ _ _ sb (⟨⟨_, _, rfl, vl, vm, ve⟩⟩ : Sl EntR _ _ es))).mono ?_
 rintro e w' ⟨rfl, hw'⟩
 refine ⟨_, rfl, _, back _ _ hw', ?_⟩
 clear hw hw1 hw' back kn sb
 refine l_val (v := .bool false) rfl rfl rfl (e_not (a := true) rfl) ?_
 refine l_val (v := .bool false) rfl rfl rfl (e_move) ?_
 refine g_val (v := .agg #[.slice (sla (prt 0 (fa19 18))) (bs.length) (slc (prt 0 (fa19 18))), .slice (sla (prt 1 (fa19 18))) (rs.length) (slc (prt 1 (fa19 18))), Ix (gx), Ix (gy)]) rfl rfl rfl rfl rfl (e_load tw25 (cs := [.slice (sla (prt 0 (fa19 18))) (bs.length) (slc (prt 0 (fa19 18))), .slice (sla (prt 1 (fa19 18))) (rs.length) (slc (prt 1 (fa19 18))), Ix (gx), Ix (gy)]) rfl (k_pt 9 (cs := #[.slice (sla (prt 0 (fa19 18))) (bs.length) (slc (prt 0 (fa19 18))), .slice (sla (prt 1 (fa19 18))) (rs.length) (slc (prt 1 (fa19 18))), Ix (gx), Ix (gy)]) (vs := [.slice (sla (prt 0 (fa19 18))) (bs.length) (slc (prt 0 (fa19 18))), .slice (sla (prt 1 (fa19 18))) (rs.length) (slc (prt 1 (fa19 18))), Ix (gx), Ix (gy)]) rfl rfl) rfl) ?_
 refine g_val (v := .agg #[.slice bva (bs.length) (bvc), .slice rva (rs.length) (rvc), Ix (gx), Ix (gy)]) rfl rfl rfl rfl rfl (e_load tw25 (cs := [.slice bva (bs.length) (bvc), .slice rva (rs.length) (rvc), Ix (gx), Ix (gy)]) rfl (k_pt 3 (cs := #[.slice bva (bs.length) (bvc), .slice rva (rs.length) (rvc), Ix (gx), Ix (gy)]) (vs := [.slice bva (bs.length) (bvc), .slice rva (rs.length) (rvc), Ix (gx), Ix (gy)]) rfl rfl) rfl) ?_
 refine g_call rfl rfl rfl rfl rfl (cl_value (fst := []) (cap := []) (vs := [.agg #[.slice (sla (prt 0 (fa19 18))) (bs.length) (slc (prt 0 (fa19 18))), .slice (sla (prt 1 (fa19 18))) (rs.length) (slc (prt 1 (fa19 18))), Ix (gx), Ix (gy)], .agg #[.slice bva (bs.length) (bvc), .slice rva (rs.length) (rvc), Ix (gx), Ix (gy)]]) (all := [.agg #[.slice (sla (prt 0 (fa19 18))) (bs.length) (slc (prt 0 (fa19 18))), .slice (sla (prt 1 (fa19 18))) (rs.length) (slc (prt 1 (fa19 18))), Ix (gx), Ix (gy)], .agg #[.slice bva (bs.length) (bvc), .slice rva (rs.length) (rvc), Ix (gx), Ix (gy)]]) tw229 rfl rfl rfl) ?_
 intro w hw
 obtain ⟨β1, sb, kn, hw1, back⟩ := St.frame_all hw
 refine (keptS_ok β1 w hw1 _ _ _ _ _ _ gx gy bs rs (by omega) (by omega) (kn _ (k_fl 6 (F := BodyF) rfl)) (kn _ (k_fl 7 (F := RopeF) rfl)) (Sl.mono _ _ _ _ _ sb (⟨⟨_, _, rfl, bvl, bvm, bve⟩⟩ : Sl KBR _ _ bs)) (Sl.mono _ _ _ _ _ sb (⟨⟨_, _, rfl, rvl, rvm, rve⟩⟩ : Sl KRR _ _ rs))).mono ?_
 rintro e w' ⟨rfl, hw'⟩
 refine ⟨_, rfl, _, back _ _ hw', ?_⟩
 clear hw hw1 hw' back kn sb
 refine g_val (v := .bool false) rfl rfl rfl rfl rfl (e_not (a := true) rfl) ?_
 refine l_val (v := .bool false) rfl rfl rfl (e_pick_f rfl) ?_
 refine l_nil ?_
 refine f_then ?_
 refine c_no rfl ?_
 refine c_skip ?_
 refine f_then ?_
 refine c_seq ?_
 refine c_region ?_
 refine l_val (v := .agg #[Ix (tick), .slice (sla (prt 1 (fa19 16))) (es.length) (slc (prt 1 (fa19 16)))]) rfl rfl rfl (e_load tw48 (cs := [Ix (tick), .slice (sla (prt 1 (fa19 16))) (es.length) (slc (prt 1 (fa19 16)))]) rfl (k_pt 8 (cs := #[Ix (tick), .slice (sla (prt 1 (fa19 16))) (es.length) (slc (prt 1 (fa19 16)))]) (vs := [Ix (tick), .slice (sla (prt 1 (fa19 16))) (es.length) (slc (prt 1 (fa19 16)))]) rfl rfl) rfl) ?_
 refine l_call rfl rfl rfl (cl_value (fst := []) (cap := []) (vs := [.agg #[Ix (tick), .slice (sla (prt 1 (fa19 16))) (es.length) (slc (prt 1 (fa19 16)))]]) (all := [.agg #[Ix (tick), .slice (sla (prt 1 (fa19 16))) (es.length) (slc (prt 1 (fa19 16)))]]) tw230 rfl rfl rfl) ?_
 intro w hw
 replace hw := hw.perm (L' := _ :: _ :: _ :: _ :: _ :: _ :: _ :: _ :: _ :: _ :: []) (by exact ((((((((((perm_front 9 rfl).trans (perm_front 9 rfl)).trans (perm_front 9 rfl)).trans (perm_front 9 rfl)).trans (perm_front 8 rfl)).trans (perm_front 8 rfl)).trans (perm_front 8 rfl)).trans (perm_front 8 rfl)).trans (perm_front 8 rfl)).trans (perm_front 9 rfl)))
 obtain ⟨β1, sb, kn, hw1, back⟩ := St.frame (L := [_]) (M := _ :: _ :: _ :: _ :: _ :: _ :: _ :: _ :: _ :: []) hw
 refine (overX_ok β1 w (tick) _ _ es (by omega) (fun e he => by have := hcl8 e he; omega) hw1).mono ?_
 rintro e w' ⟨rfl, hw'⟩
 refine ⟨_, rfl, _, back _ _ hw', ?_⟩
 clear hw hw1 hw' back kn sb
 refine l_nil ?_
 refine f_then ?_
 refine c_seq ?_
 refine c_region ?_
 refine l_val (v := .agg #[.slice (sla (prt 0 (fa19 18))) (bs.length) (slc (prt 0 (fa19 18))), .slice (sla (prt 1 (fa19 18))) (rs.length) (slc (prt 1 (fa19 18))), Ix (gx), Ix (gy)]) rfl rfl rfl (e_load tw25 (cs := [.slice (sla (prt 0 (fa19 18))) (bs.length) (slc (prt 0 (fa19 18))), .slice (sla (prt 1 (fa19 18))) (rs.length) (slc (prt 1 (fa19 18))), Ix (gx), Ix (gy)]) rfl (k_pt 8 (cs := #[.slice (sla (prt 0 (fa19 18))) (bs.length) (slc (prt 0 (fa19 18))), .slice (sla (prt 1 (fa19 18))) (rs.length) (slc (prt 1 (fa19 18))), Ix (gx), Ix (gy)]) (vs := [.slice (sla (prt 0 (fa19 18))) (bs.length) (slc (prt 0 (fa19 18))), .slice (sla (prt 1 (fa19 18))) (rs.length) (slc (prt 1 (fa19 18))), Ix (gx), Ix (gy)]) rfl rfl) rfl) ?_
 refine l_call rfl rfl rfl (cl_value (fst := []) (cap := []) (vs := [.agg #[.slice (sla (prt 0 (fa19 18))) (bs.length) (slc (prt 0 (fa19 18))), .slice (sla (prt 1 (fa19 18))) (rs.length) (slc (prt 1 (fa19 18))), Ix (gx), Ix (gy)]]) (all := [.agg #[.slice (sla (prt 0 (fa19 18))) (bs.length) (slc (prt 0 (fa19 18))), .slice (sla (prt 1 (fa19 18))) (rs.length) (slc (prt 1 (fa19 18))), Ix (gx), Ix (gy)]]) tw231 rfl rfl rfl) ?_
 intro w hw
 replace hw := hw.perm (L' := _ :: _ :: _ :: _ :: _ :: _ :: _ :: _ :: _ :: []) (by exact (((((((((perm_front 8 rfl).trans (perm_front 8 rfl)).trans (perm_front 6 rfl)).trans (perm_front 6 rfl)).trans (perm_front 6 rfl)).trans (perm_front 6 rfl)).trans (perm_front 6 rfl)).trans (perm_front 8 rfl)).trans (perm_front 8 rfl)))
 obtain ⟨β1, sb, kn, hw1, back⟩ := St.frame (L := [_, _]) (M := _ :: _ :: _ :: _ :: _ :: _ :: _ :: []) hw
 refine (overS_ok β1 w _ _ _ _ _ _ gx gy _ _ (lentL_len _ _) (lentL_len _ _) (by omega) (by omega) hw1).mono ?_
 rintro e w' ⟨zs62, ts63, rfl, hw'⟩
 refine ⟨_, rfl, _, back _ _ hw', ?_⟩
 clear hw hw1 hw' back kn sb
 refine l_nil ?_
 refine f_then ?_
 refine c_seq ?_
 refine c_mask [false, false, true, true, true, true, true, true, true] rfl ?_
 refine c_any [⟨[], [], [0], [105], fun f => f 105 = .agg #[.slice p20 ((bodiesOf es).length) c21, .slice p22 ((ropesOf (bodiesOf es) rs).length) c23, Ix (gx), Ix (gy)]⟩, ⟨[], [], [1], [106], fun f => f 106 = .agg #[Ix (tick), .slice va (es.length) (vc)]⟩, ⟨[], [], [2], [107], fun f => f 107 = .pointer (some ⟨b2, 1, none⟩)⟩, ⟨[2], [2], [], [108], fun f => f 108 = .slice rva (rs.length) (rvc)⟩, ⟨[], [], [2], [109], fun f => f 109 = .pointer (some ⟨b2, 2, none⟩)⟩, ⟨[4], [4], [], [110], fun f => f 110 = .agg #[Ix (gx), Ix (gy)]⟩, ⟨[1, 2, 3, 4, 5], [1, 3, 5], [], [111], fun f => f 111 = .agg #[.slice (sla (prt 0 (f 111))) ((bodiesOf es).length) (slc (prt 0 (f 111))), .slice (sla (prt 1 (f 111))) ((ropesOf (bodiesOf es) rs).length) (slc (prt 1 (f 111))), Ix (gx), Ix (gy)]⟩, ⟨[0, 1, 2, 3, 4, 5, 6], [0, 6], [], [112], fun f => f 112 = .bool true⟩, ⟨[0, 1, 2, 3, 4, 5, 6, 7], [7], [], [4], fun f => f 4 = .bool true⟩] [⟨none, none, [0], [], fun _ => pt b24 (.cells #[.slice p20 ((bodiesOf es).length) c21, .slice p22 ((ropesOf (bodiesOf es) rs).length) c23, Ix (gx), Ix (gy)] 30)⟩, ⟨none, none, [7], [], fun _ => rowF BodyF 52 p20 c21 (bodiesOf es)⟩, ⟨none, none, [7], [], fun _ => rowF RopeF 78 p22 c23 (ropesOf (bodiesOf es) rs)⟩, ⟨none, none, [3, 5], [], fun _ => pt b2 (.cells #[.slice bva (bs.length) (bvc), .slice rva (rs.length) (rvc), Ix (gx), Ix (gy)] 30)⟩, ⟨none, none, [1], [], fun _ => pt b1 (.cells #[Ix (tick), .slice va (es.length) (vc)] 24)⟩, ⟨none, none, [], [], fun _ => pt (blk (fa19 5)) (.cells #[Ix (tick), .slice (sla (prt 1 (fa19 16))) (es.length) (slc (prt 1 (fa19 16)))] 24)⟩, ⟨none, none, [], [], fun _ => pt (blk (fa19 6)) (.cells #[.slice (sla (prt 0 (fa19 18))) (bs.length) (slc (prt 0 (fa19 18))), .slice (sla (prt 1 (fa19 18))) (rs.length) (slc (prt 1 (fa19 18))), Ix (gx), Ix (gy)] 30)⟩, ⟨(some 6), none, [7], [111], fun f => rowF BodyF 52 (sla (prt 0 (f 111))) (slc (prt 0 (f 111))) (bodiesOf es)⟩, ⟨(some 6), none, [7], [111], fun f => rowF RopeF 78 (sla (prt 1 (f 111))) (slc (prt 1 (f 111))) (ropesOf (bodiesOf es) rs)⟩] [(7, .pointer (some ⟨b24, 0, none⟩)), (2, .pointer (some ⟨b1, 0, none⟩)), (3, .pointer (some ⟨b2, 0, none⟩))] [] [] (by kernel_rfl) (by kernel_rfl) (by kernel_rfl) (by kernel_rfl) rfl ⟨rfl, rfl, rfl, trivial⟩ ⟨?_, ?_, ?_, ?_, ?_, ?_, ?_, ?_, ?_, trivial⟩ ?_
 ·rintro f M - ⟨i0, -⟩
  have hs7 : f 7 = .pointer (some ⟨b24, 0, none⟩) := i0
  refine ob_start (L' := pt b24 (.cells #[.slice p20 ((bodiesOf es).length) c21, .slice p22 ((ropesOf (bodiesOf es) rs).length) c23, Ix (gx), Ix (gy)] 30) :: M) (by rfl) (up_cons rfl hs7) ?_
  refine l_val (v := .agg #[.slice p20 ((bodiesOf es).length) c21, .slice p22 ((ropesOf (bodiesOf es) rs).length) c23, Ix (gx), Ix (gy)]) rfl rfl rfl (e_load tw25 (cs := [.slice p20 ((bodiesOf es).length) c21, .slice p22 ((ropesOf (bodiesOf es) rs).length) c23, Ix (gx), Ix (gy)]) rfl (k_pt 0 (cs := #[.slice p20 ((bodiesOf es).length) c21, .slice p22 ((ropesOf (bodiesOf es) rs).length) c23, Ix (gx), Ix (gy)]) (vs := [.slice p20 ((bodiesOf es).length) c21, .slice p22 ((ropesOf (bodiesOf es) rs).length) c23, Ix (gx), Ix (gy)]) rfl rfl) rfl) ?_
  refine l_nil ?_
  exact f_owes_d (up_cons rfl hs7) rfl (perm_front 0 rfl)
 ·rintro f M - ⟨i0, -⟩
  have hs2 : f 2 = .pointer (some ⟨b1, 0, none⟩) := i0
  refine ob_start (L' := pt b1 (.cells #[Ix (tick), .slice va (es.length) (vc)] 24) :: M) (by rfl) (up_cons rfl hs2) ?_
  refine l_val (v := .agg #[Ix (tick), .slice va (es.length) (vc)]) rfl rfl rfl (e_load tw48 (cs := [Ix (tick), .slice va (es.length) (vc)]) rfl (k_pt 0 (cs := #[Ix (tick), .slice va (es.length) (vc)]) (vs := [Ix (tick), .slice va (es.length) (vc)]) rfl rfl) rfl) ?_
  refine l_nil ?_
  exact f_owes_d (up_cons rfl hs2) rfl (perm_front 0 rfl)
 ·rintro f M - ⟨i0, -⟩
  have hs3 : f 3 = .pointer (some ⟨b2, 0, none⟩) := i0
  refine ob_start (L' := M) (by rfl) (up_cons rfl hs3) ?_
  refine l_val (v := .pointer (some ⟨b2, 1, none⟩)) rfl rfl rfl (e_fieldPt (b := b2) (o := 0) rfl tw40) ?_
  refine l_nil ?_
  exact f_owes_d (up_cons rfl hs3) rfl (List.Perm.refl _)
 ·rintro f M ⟨k0, -⟩ -
  have hs107 : f 107 = .pointer (some ⟨b2, 1, none⟩) := k0
  refine ob_start (L' := pt b2 (.cells #[.slice bva (bs.length) (bvc), .slice rva (rs.length) (rvc), Ix (gx), Ix (gy)] 30) :: M) (by rfl) (up_cons rfl hs107) ?_
  refine l_val (v := .slice rva (rs.length) (rvc)) rfl rfl rfl (e_load1 tw41 (v := .slice rva (rs.length) (rvc)) rfl (k_pt 0 (cs := #[.slice bva (bs.length) (bvc), .slice rva (rs.length) (rvc), Ix (gx), Ix (gy)]) (vs := [.slice rva (rs.length) (rvc)]) rfl rfl)) ?_
  refine l_nil ?_
  exact f_owes_d (up_cons rfl hs107) rfl (perm_front 0 rfl)
 ·rintro f M - ⟨i0, -⟩
  have hs3 : f 3 = .pointer (some ⟨b2, 0, none⟩) := i0
  refine ob_start (L' := M) (by rfl) (up_cons rfl hs3) ?_
  refine l_val (v := .pointer (some ⟨b2, 2, none⟩)) rfl rfl rfl (e_fieldPt (b := b2) (o := 0) rfl tw221) ?_
  refine l_nil ?_
  exact f_owes_d (up_cons rfl hs3) rfl (List.Perm.refl _)
 ·rintro f M ⟨k0, -⟩ -
  have hs109 : f 109 = .pointer (some ⟨b2, 2, none⟩) := k0
  refine ob_start (L' := pt b2 (.cells #[.slice bva (bs.length) (bvc), .slice rva (rs.length) (rvc), Ix (gx), Ix (gy)] 30) :: M) (by rfl) (up_cons rfl hs109) ?_
  refine l_val (v := .agg #[Ix (gx), Ix (gy)]) rfl rfl rfl (e_load tw22 (cs := [Ix (gx), Ix (gy)]) rfl (k_pt 0 (cs := #[.slice bva (bs.length) (bvc), .slice rva (rs.length) (rvc), Ix (gx), Ix (gy)]) (vs := [Ix (gx), Ix (gy)]) rfl rfl) rfl) ?_
  refine l_nil ?_
  exact f_owes_d (up_cons rfl hs109) rfl (perm_front 0 rfl)
 ·rintro f M ⟨k0, k1, k2, -⟩ -
  have hs106 : f 106 = .agg #[Ix (tick), .slice va (es.length) (vc)] := k0
  have hs108 : f 108 = .slice rva (rs.length) (rvc) := k1
  have hs110 : f 110 = .agg #[Ix (gx), Ix (gy)] := k2
  refine ob_start (L' := M) (by rfl) (up_cons (up_cons (up_cons rfl hs106) hs108) hs110) ?_
  refine l_call rfl rfl rfl (cl_value (fst := []) (cap := []) (vs := [.agg #[Ix (tick), .slice va (es.length) (vc)], .slice rva (rs.length) (rvc), .agg #[Ix (gx), Ix (gy)]]) (all := [.agg #[Ix (tick), .slice va (es.length) (vc)], .slice rva (rs.length) (rvc), .agg #[Ix (gx), Ix (gy)]]) tw57 rfl rfl rfl) ?_
  intro w hw
  obtain ⟨β1, sb, kn, hw1, back⟩ := St.frame_all hw
  refine (rbodies_ok β1 w hw1 _ _ _ (gx) (gy) es rs (Sl.mono _ _ _ _ _ sb (⟨⟨_, _, rfl, vl, vm, ve⟩⟩ : Sl EntR _ _ es)) (Sl.mono _ _ _ _ _ sb (⟨⟨_, _, rfl, rvl, rvm, rve⟩⟩ : Sl KRR _ _ rs)) hn hrn).mono ?_
  rintro e w' ⟨p68, c69, p70, c71, rfl, hw'⟩
  refine ⟨_, rfl, _, back _ _ hw', ?_⟩
  clear hw hw1 hw' back kn sb
  refine l_nil ?_
  exact f_owes_d (up_cons (up_cons (up_cons rfl hs106) hs108) hs110) rfl ((perm_front 1 rfl).trans (perm_front 1 rfl))
 ·rintro f M ⟨k0, k1, -⟩ -
  have hs105 : f 105 = .agg #[.slice p20 ((bodiesOf es).length) c21, .slice p22 ((ropesOf (bodiesOf es) rs).length) c23, Ix (gx), Ix (gy)] := k0
  have hs111 : f 111 = .agg #[.slice (sla (prt 0 (f 111))) ((bodiesOf es).length) (slc (prt 0 (f 111))), .slice (sla (prt 1 (f 111))) ((ropesOf (bodiesOf es) rs).length) (slc (prt 1 (f 111))), Ix (gx), Ix (gy)] := k1
  refine ob_start (L' := rowF BodyF 52 p20 c21 (bodiesOf es) :: rowF RopeF 78 p22 c23 (ropesOf (bodiesOf es) rs) :: rowF BodyF 52 (sla (prt 0 (f 111))) (slc (prt 0 (f 111))) (bodiesOf es) :: rowF RopeF 78 (sla (prt 1 (f 111))) (slc (prt 1 (f 111))) (ropesOf (bodiesOf es) rs) :: M) (by rfl) (up_cons (up_cons rfl hs105) hs111) ?_
  refine l_call rfl rfl rfl (cl_value (fst := []) (cap := []) (vs := [.agg #[.slice p20 ((bodiesOf es).length) c21, .slice p22 ((ropesOf (bodiesOf es) rs).length) c23, Ix (gx), Ix (gy)], .agg #[.slice (sla (prt 0 (f 111))) ((bodiesOf es).length) (slc (prt 0 (f 111))), .slice (sla (prt 1 (f 111))) ((ropesOf (bodiesOf es) rs).length) (slc (prt 1 (f 111))), Ix (gx), Ix (gy)]]) (all := [.agg #[.slice p20 ((bodiesOf es).length) c21, .slice p22 ((ropesOf (bodiesOf es) rs).length) c23, Ix (gx), Ix (gy)], .agg #[.slice (sla (prt 0 (f 111))) ((bodiesOf es).length) (slc (prt 0 (f 111))), .slice (sla (prt 1 (f 111))) ((ropesOf (bodiesOf es) rs).length) (slc (prt 1 (f 111))), Ix (gx), Ix (gy)]]) tw222 rfl rfl rfl) ?_
  intro w hw
  obtain ⟨β1, sb, kn, hw1, back⟩ := St.frame_all hw
  refine (eqScene_ok β1 w hw1 _ _ _ _ (gx) (gy) (bodiesOf es) (ropesOf (bodiesOf es) rs) (kn _ (k_flN 0 (F := BodyF) (m := (bodiesOf es).length) (xs := (bodiesOf es)) rfl rfl)) (kn _ (k_flN 1 (F := RopeF) (m := (ropesOf (bodiesOf es) rs).length) (xs := (ropesOf (bodiesOf es) rs)) rfl rfl)) (kn _ (k_flN 2 (F := BodyF) (m := (bodiesOf es).length) (xs := (bodiesOf es)) rfl rfl)) (kn _ (k_flN 3 (F := RopeF) (m := (ropesOf (bodiesOf es) rs).length) (xs := (ropesOf (bodiesOf es) rs)) rfl rfl))).mono ?_
  rintro e w' ⟨rfl, hw'⟩
  refine ⟨_, rfl, _, back _ _ hw', ?_⟩
  clear hw hw1 hw' back kn sb
  refine l_nil ?_
  exact f_owes_d (up_cons (up_cons rfl hs105) hs111) rfl ((((perm_front 3 rfl).trans (perm_front 3 rfl)).trans (perm_front 3 rfl)).trans (perm_front 3 rfl))
 ·rintro f M ⟨k0, -⟩ -
  have hs112 : f 112 = .bool true := k0
  refine ob_start (L' := M) (by rfl) (up_cons rfl hs112) ?_
  refine l_val (v := .bool true) rfl rfl rfl (e_assign) ?_
  refine l_nil ?_
  exact f_owes_d (up_cons rfl hs112) rfl (List.Perm.refl _)
 rintro fa72 ⟨-, -, -, -, -, -, -, -, k8, -⟩ -
 refine f_re (L' := [pt b24 (.cells #[.slice p20 ((bodiesOf es).length) c21, .slice p22 ((ropesOf (bodiesOf es) rs).length) c23, Ix (gx), Ix (gy)] 30), rowF BodyF 52 p20 c21 (bodiesOf es), rowF RopeF 78 p22 c23 (ropesOf (bodiesOf es) rs), pt b2 (.cells #[.slice bva (bs.length) (bvc), .slice rva (rs.length) (rvc), Ix (gx), Ix (gy)] 30), pt b1 (.cells #[Ix (tick), .slice va (es.length) (vc)] 24), pt (blk (fa19 5)) (.cells #[Ix (tick), .slice (sla (prt 1 (fa19 16))) (es.length) (slc (prt 1 (fa19 16)))] 24), pt (blk (fa19 6)) (.cells #[.slice (sla (prt 0 (fa19 18))) (bs.length) (slc (prt 0 (fa19 18))), .slice (sla (prt 1 (fa19 18))) (rs.length) (slc (prt 1 (fa19 18))), Ix (gx), Ix (gy)] 30), rowF BodyF 52 (sla (prt 0 (fa72 111))) (slc (prt 0 (fa72 111))) (bodiesOf es), rowF RopeF 78 (sla (prt 1 (fa72 111))) (slc (prt 1 (fa72 111))) (ropesOf (bodiesOf es) rs)]) (by rfl) ?_
 refine f_rebase (d := 4) (v := .bool true) k8 ?_
 refine f_then ?_
 refine c_ret ?_
 refine ret1 Tryz.results6 (v := .bool true) rfl ?_
 intro w hw
 exact ⟨rfl, st_mask [false, false, false, false, false, false, false, false, false] rfl hw⟩
set_option maxHeartbeats 4000000 in
theorem stepWorlds_ok (β : Base) (w : World) (hw : St β [] w) (tick : Int) (v bv rv : Value) (gx gy : Int) (es : List KEnt) (bs : List KB) (rs : List KR) (hs : Sl EntR β.heap v es) (hb : Sl KBR β.heap bv bs) (hr : Sl KRR β.heap rv rs) (hgx : -9223372036854775808 ≤ gx ∧ gx ≤ 9223372036854775807) (hgy : -9223372036854775808 ≤ gy ∧ gy ≤ 9223372036854775807) (hG : GR β) : Calls Tryz.prog 3 #[.agg #[Ix tick, v], .agg #[bv, rv, Ix gx, Ix gy]] w fun r w' => r = .returned (.bool true) ∧ St β [] w' := by
 obtain ⟨va, vc, rfl, vl, vm, ve⟩ := hs.get
 obtain ⟨bva, bvc, rfl, bvl, bvm, bve⟩ := hb.get
 obtain ⟨rva, rvc, rfl, rvl, rvm, rve⟩ := hr.get
 refine enter (n := 28) Tryz.func3 rfl Tryz.ntmps3 rfl ?_ hw
 refine c_seq ?_
 refine c_region ?_
 refine l_mv rfl rfl rfl (m_box (v := .agg #[Ix (tick), .slice va (es.length) (vc)]) rfl) ?_
 rintro _ _ ⟨b1, rfl, rfl⟩
 refine l_mv rfl rfl rfl (m_box (v := .agg #[.slice bva (bs.length) (bvc), .slice rva (rs.length) (rvc), Ix (gx), Ix (gy)]) rfl) ?_
 rintro _ _ ⟨b2, rfl, rfl⟩
 refine l_val (v := .bool false) rfl rfl rfl (e_assign) ?_
 refine l_nil ?_
 refine f_then ?_
 refine c_seq ?_
 refine c_region ?_
 refine l_val (v := .agg #[Ix (tick), .slice va (es.length) (vc)]) rfl rfl rfl (e_load tw48 (cs := [Ix (tick), .slice va (es.length) (vc)]) rfl (k_pt 1 (cs := #[Ix (tick), .slice va (es.length) (vc)]) (vs := [Ix (tick), .slice va (es.length) (vc)]) rfl rfl) rfl) ?_
 refine l_call rfl rfl rfl (cl_value (fst := []) (cap := []) (vs := [.agg #[Ix (tick), .slice va (es.length) (vc)]]) (all := [.agg #[Ix (tick), .slice va (es.length) (vc)]]) tw232 rfl rfl rfl) ?_
 intro w hw
 obtain ⟨β1, sb, kn, hw1, back⟩ := St.frame_all hw
 refine (smallW_ok β1 w hw1 (tick) _ es (Sl.mono _ _ _ _ _ sb (⟨⟨_, _, rfl, vl, vm, ve⟩⟩ : Sl EntR _ _ es))).mono ?_
 rintro e w' ⟨sm3, rfl, hsm, hw'⟩
 refine ⟨_, rfl, _, back _ _ hw', ?_⟩
 clear hw hw1 hw' back kn sb
 refine l_val (v := .bool (!sm3)) rfl rfl rfl (e_not rfl) ?_
 refine l_val (v := .bool (!sm3)) rfl rfl rfl (e_move) ?_
 refine l_splitb (s := 8) (b := !sm3) rfl (fun hg4 => ?_) (fun hg4 => ?_)
 ·
  refine l_skip rfl rfl rfl rfl rfl rfl ?_
  refine l_skip rfl rfl rfl rfl rfl rfl ?_
  refine l_skip rfl rfl rfl rfl rfl rfl ?_
  refine l_skip rfl rfl rfl rfl rfl rfl ?_
  refine l_val (v := .bool true) rfl rfl rfl (e_pick_t rfl) ?_
  refine l_val (v := .bool true) rfl rfl rfl (e_move) ?_
  refine l_skip rfl rfl rfl rfl rfl rfl ?_
  refine l_skip rfl rfl rfl rfl rfl rfl ?_
  refine l_skip rfl rfl rfl rfl rfl rfl ?_
  refine l_skip rfl rfl rfl rfl rfl rfl ?_
  refine l_val (v := .bool true) rfl rfl rfl (e_pick_t rfl) ?_
  refine l_val (v := .bool true) rfl rfl rfl (e_move) ?_
  refine l_skip rfl rfl rfl rfl rfl rfl ?_
  refine l_skip rfl rfl rfl rfl rfl rfl ?_
  refine l_skip rfl rfl rfl rfl rfl rfl ?_
  refine l_val (v := .bool true) rfl rfl rfl (e_pick_t rfl) ?_
  refine l_val (v := .bool true) rfl rfl rfl (e_move) ?_
  refine g_call rfl rfl rfl rfl rfl (cl_value (fst := []) (cap := []) (vs := []) (all := []) tw233 rfl rfl rfl) ?_
  intro w hw
  obtain ⟨β1, sb, kn, hw1, back⟩ := St.frame_all hw
  refine (awake_ok β1 w hw1 (GR.mono sb hG)).mono ?_
  rintro e w' ⟨rfl, hw'⟩
  refine ⟨_, rfl, _, back _ _ hw', ?_⟩
  clear hw hw1 hw' back kn sb
  refine l_val (v := .bool true) rfl rfl rfl (e_pick_t rfl) ?_
  refine l_val (v := .bool true) rfl rfl rfl (e_assign) ?_
  refine l_nil ?_
  refine f_then ?_
  refine c_ret ?_
  refine ret1 Tryz.results3 (v := .bool true) rfl ?_
  intro w hw
  exact ⟨rfl, st_mask [false, false] rfl hw⟩
 ·
  refine g_val (v := .pointer (some ⟨b2, 0, none⟩)) rfl rfl rfl rfl rfl (e_fieldPt (b := b2) (o := 0) rfl tw31) ?_
  refine g_val (v := .slice bva (bs.length) (bvc)) rfl rfl rfl rfl rfl (e_load1 tw32 (v := .slice bva (bs.length) (bvc)) rfl (k_pt 0 (cs := #[.slice bva (bs.length) (bvc), .slice rva (rs.length) (rvc), Ix (gx), Ix (gy)]) (vs := [.slice bva (bs.length) (bvc)]) rfl rfl)) ?_
  refine g_val (v := Nx (bs.length)) rfl rfl rfl rfl rfl (e_len (a := bva) (n := bs.length) (c := bvc) rfl tw234) ?_
  refine g_val (v := .bool (decide ((12 : Int) < ((bs.length : Nat) : Int)))) rfl rfl rfl rfl rfl (e_gtr (a := ((bs.length : Nat) : Int)) (b := (12 : Int)) rfl rfl) ?_
  refine l_val (v := .bool (decide ((12 : Int) < ((bs.length : Nat) : Int)))) rfl rfl rfl (e_pick_f rfl) ?_
  refine l_val (v := .bool (decide ((12 : Int) < ((bs.length : Nat) : Int)))) rfl rfl rfl (e_move) ?_
  refine l_split (s := 14) (p := (12 : Int) < ((bs.length : Nat) : Int)) rfl (fun hg5 => ?_) (fun hg5 => ?_)
  ·
   refine l_skip rfl rfl rfl rfl rfl rfl ?_
   refine l_skip rfl rfl rfl rfl rfl rfl ?_
   refine l_skip rfl rfl rfl rfl rfl rfl ?_
   refine l_skip rfl rfl rfl rfl rfl rfl ?_
   refine l_val (v := .bool true) rfl rfl rfl (e_pick_t rfl) ?_
   refine l_val (v := .bool true) rfl rfl rfl (e_move) ?_
   refine l_skip rfl rfl rfl rfl rfl rfl ?_
   refine l_skip rfl rfl rfl rfl rfl rfl ?_
   refine l_skip rfl rfl rfl rfl rfl rfl ?_
   refine l_val (v := .bool true) rfl rfl rfl (e_pick_t rfl) ?_
   refine l_val (v := .bool true) rfl rfl rfl (e_move) ?_
   refine g_call rfl rfl rfl rfl rfl (cl_value (fst := []) (cap := []) (vs := []) (all := []) tw233 rfl rfl rfl) ?_
   intro w hw
   obtain ⟨β1, sb, kn, hw1, back⟩ := St.frame_all hw
   refine (awake_ok β1 w hw1 (GR.mono sb hG)).mono ?_
   rintro e w' ⟨rfl, hw'⟩
   refine ⟨_, rfl, _, back _ _ hw', ?_⟩
   clear hw hw1 hw' back kn sb
   refine l_val (v := .bool true) rfl rfl rfl (e_pick_t rfl) ?_
   refine l_val (v := .bool true) rfl rfl rfl (e_assign) ?_
   refine l_nil ?_
   refine f_then ?_
   refine c_ret ?_
   refine ret1 Tryz.results3 (v := .bool true) rfl ?_
   intro w hw
   exact ⟨rfl, st_mask [false, false] rfl hw⟩
  ·
   refine g_val (v := .pointer (some ⟨b2, 1, none⟩)) rfl rfl rfl rfl rfl (e_fieldPt (b := b2) (o := 0) rfl tw40) ?_
   refine g_val (v := .slice rva (rs.length) (rvc)) rfl rfl rfl rfl rfl (e_load1 tw41 (v := .slice rva (rs.length) (rvc)) rfl (k_pt 0 (cs := #[.slice bva (bs.length) (bvc), .slice rva (rs.length) (rvc), Ix (gx), Ix (gy)]) (vs := [.slice rva (rs.length) (rvc)]) rfl rfl)) ?_
   refine g_val (v := Nx (rs.length)) rfl rfl rfl rfl rfl (e_len (a := rva) (n := rs.length) (c := rvc) rfl tw35) ?_
   refine g_val (v := .bool (decide ((6 : Int) < ((rs.length : Nat) : Int)))) rfl rfl rfl rfl rfl (e_gtr (a := ((rs.length : Nat) : Int)) (b := (6 : Int)) rfl rfl) ?_
   refine l_val (v := .bool (decide ((6 : Int) < ((rs.length : Nat) : Int)))) rfl rfl rfl (e_pick_f rfl) ?_
   refine l_val (v := .bool (decide ((6 : Int) < ((rs.length : Nat) : Int)))) rfl rfl rfl (e_move) ?_
   refine l_split (s := 20) (p := (6 : Int) < ((rs.length : Nat) : Int)) rfl (fun hg6 => ?_) (fun hg6 => ?_)
   ·
    refine l_skip rfl rfl rfl rfl rfl rfl ?_
    refine l_skip rfl rfl rfl rfl rfl rfl ?_
    refine l_skip rfl rfl rfl rfl rfl rfl ?_
    refine l_val (v := .bool true) rfl rfl rfl (e_pick_t rfl) ?_
    refine l_val (v := .bool true) rfl rfl rfl (e_move) ?_
    refine g_call rfl rfl rfl rfl rfl (cl_value (fst := []) (cap := []) (vs := []) (all := []) tw233 rfl rfl rfl) ?_
    intro w hw
    obtain ⟨β1, sb, kn, hw1, back⟩ := St.frame_all hw
    refine (awake_ok β1 w hw1 (GR.mono sb hG)).mono ?_
    rintro e w' ⟨rfl, hw'⟩
    refine ⟨_, rfl, _, back _ _ hw', ?_⟩
    clear hw hw1 hw' back kn sb
    refine l_val (v := .bool true) rfl rfl rfl (e_pick_t rfl) ?_
    refine l_val (v := .bool true) rfl rfl rfl (e_assign) ?_
    refine l_nil ?_
    refine f_then ?_
    refine c_ret ?_
    refine ret1 Tryz.results3 (v := .bool true) rfl ?_
    intro w hw
    exact ⟨rfl, st_mask [false, false] rfl hw⟩
   ·
    refine g_val (v := .agg #[Ix (tick), .slice va (es.length) (vc)]) rfl rfl rfl rfl rfl (e_load tw48 (cs := [Ix (tick), .slice va (es.length) (vc)]) rfl (k_pt 1 (cs := #[Ix (tick), .slice va (es.length) (vc)]) (vs := [Ix (tick), .slice va (es.length) (vc)]) rfl rfl) rfl) ?_
    refine g_val (v := .agg #[.slice bva (bs.length) (bvc), .slice rva (rs.length) (rvc), Ix (gx), Ix (gy)]) rfl rfl rfl rfl rfl (e_load tw25 (cs := [.slice bva (bs.length) (bvc), .slice rva (rs.length) (rvc), Ix (gx), Ix (gy)]) rfl (k_pt 0 (cs := #[.slice bva (bs.length) (bvc), .slice rva (rs.length) (rvc), Ix (gx), Ix (gy)]) (vs := [.slice bva (bs.length) (bvc), .slice rva (rs.length) (rvc), Ix (gx), Ix (gy)]) rfl rfl) rfl) ?_
    refine g_call rfl rfl rfl rfl rfl (cl_value (fst := []) (cap := []) (vs := [.agg #[Ix (tick), .slice va (es.length) (vc)], .agg #[.slice bva (bs.length) (bvc), .slice rva (rs.length) (rvc), Ix (gx), Ix (gy)]]) (all := [.agg #[Ix (tick), .slice va (es.length) (vc)], .agg #[.slice bva (bs.length) (bvc), .slice rva (rs.length) (rvc), Ix (gx), Ix (gy)]]) tw235 rfl rfl rfl) ?_
    intro w hw
    obtain ⟨β1, sb, kn, hw1, back⟩ := St.frame_all hw
    refine (worlds_ok β1 w hw1 (tick) _ _ _ gx gy es bs rs (Sl.mono _ _ _ _ _ sb (⟨⟨_, _, rfl, vl, vm, ve⟩⟩ : Sl EntR _ _ es)) (Sl.mono _ _ _ _ _ sb (⟨⟨_, _, rfl, bvl, bvm, bve⟩⟩ : Sl KBR _ _ bs)) (Sl.mono _ _ _ _ _ sb (⟨⟨_, _, rfl, rvl, rvm, rve⟩⟩ : Sl KRR _ _ rs)) hgx hgy (GR.mono sb hG) (hsm (by simpa using hg4)).1 (hsm (by simpa using hg4)).2 (by omega) (by omega)).mono ?_
    rintro e w' ⟨rfl, hw'⟩
    refine ⟨_, rfl, _, back _ _ hw', ?_⟩
    clear hw hw1 hw' back kn sb
    refine l_val (v := .bool true) rfl rfl rfl (e_pick_f rfl) ?_
    refine l_val (v := .bool true) rfl rfl rfl (e_move) ?_
    refine g_call rfl rfl rfl rfl rfl (cl_value (fst := []) (cap := []) (vs := []) (all := []) tw233 rfl rfl rfl) ?_
    intro w hw
    obtain ⟨β1, sb, kn, hw1, back⟩ := St.frame_all hw
    refine (awake_ok β1 w hw1 (GR.mono sb hG)).mono ?_
    rintro e w' ⟨rfl, hw'⟩
    refine ⟨_, rfl, _, back _ _ hw', ?_⟩
    clear hw hw1 hw' back kn sb
    refine l_val (v := .bool true) rfl rfl rfl (e_pick_t rfl) ?_
    refine l_val (v := .bool true) rfl rfl rfl (e_assign) ?_
    refine l_nil ?_
    refine f_then ?_
    refine c_ret ?_
    refine ret1 Tryz.results3 (v := .bool true) rfl ?_
    intro w hw
    exact ⟨rfl, st_mask [false, false] rfl hw⟩
end Go.Proofs
