/-
 JournalTells, walked. Printed by a program of my own.
-/
import Derived.Test.YtkpdcajddpiknaaJnTl
import Derived.Test.YtkpdcajddpiknaaJn22
import Derived.Test.YtkpdcajddpiknaaSlC
namespace Go.Proofs
open Go Go.Sl Go.Jn
theorem sat_UR {r : Res} {vH vA vB vS : Value} {pr : Option Addr} {cr : Nat} {us : List Value} {k : KS} {i : KI} {h : PHeap} (hs : Sat [r, memU vH vA vB vS pr cr us k i] h) : Sat [r, memR vH vA vB vS (sB pr i.recs cr) k i] h := by
 obtain ⟨a, b, hd, h1, h2, hr, c, d, hd2, h3, h4, hm, _⟩ := hs
 exact ⟨a, b, hd, h1, h2, hr, c, d, hd2, h3, h4, memU_R hm, trivial⟩
theorem tf167 : cfB Try.prog 22 = true := by kernel_rfl
theorem tf168 : cfB Try.prog 23 = true := by kernel_rfl
theorem tf169 : cfB Try.prog 24 = true := by kernel_rfl
theorem tf170 : cfB Try.prog 25 = true := by kernel_rfl
theorem tf171 : cfB Try.prog 26 = true := by kernel_rfl
theorem rapp_ok2 (β : Base) (w : World) (hw : St β [] w) (k : KS) (vh va vb : Value) (hH : Sl U8R β.heap vh k.head) (hA : Sl U8R β.heap va k.a) (hB : Sl U8R β.heap vb k.b) (i : KI) (ps pr : Option Addr) (cs cr : Nat) (us : List Value) (hul : us.length = i.recs.length) (hus : Cs β.heap (ba pr) us) (hu1 : us.all (·.oneCell') = true) (hpr : 0 < i.recs.length → pr = some (ba pr)) (bs : Bs) (v : Value) (hs : Sl U8R β.heap v bs) (hfit : k.fits 524288) (hB9 : i.epoch ≤ 4611686018427387904 ∧ i.next ≤ 4611686018427387904 ∧ i.size ≤ 1048576 ∧ i.recs.length ≤ 1048576) (hbl : bs.length ≤ 65536) (hroom : (k.area i.epoch).length + 24 + bs.length ≤ 262144) (hnx : i.next ≠ 4611686018427387904) (hok : apOk k i bs) : Calls Try.prog 24 #[.agg #[vh, va, vb, Ix k.power, Nx i.epoch, Nx i.next, sB ps i.state cs, sB pr i.recs cr, Nx i.size, .bool false], v] w fun r w' => ∃ pH pA pB cH cA cB p c, r = .returned (.tuple #[.agg (rjC pH pA pB ps p cH cA cB cs c (apS k i bs) (apI i bs) false), Nx i.next, .int .i64 0]) ∧ St β ([rB pH ((apS k i bs).head) cH, rB pA ((apS k i bs).a) cA, rB pB ((apS k i bs).b) cB] ++ [apR p c us i.recs.length bs]) w' := by
 refine (rapp_ok β w hw k vh va vb hH hA hB i ps pr cs cr us hul hus hu1 hpr bs v hs hfit hB9 hbl hroom hnx hok).mono ?_
 rintro r w' ⟨pH, pA, pB, cH, cA, cB, p, c, q, cq, h1, h2⟩
 refine ⟨pH, pA, pB, cH, cA, cB, p, c, ?_, ?_⟩
 ·rw [h1]
  have e : (apI i bs).recs.length = i.recs.length + 1 := by simp [apI]
  show _ = Ending.returned (.tuple #[.agg #[.slice pH (apS k i bs).head.length cH, .slice pA (apS k i bs).a.length cA, .slice pB (apS k i bs).b.length cB, Ix (apS k i bs).power, Nx i.epoch, Nx (i.next + 1), .slice ps i.state.length cs, .slice p (apI i bs).recs.length c, Nx (i.size + (formB i.epoch i.next bs).length), .bool false], _, _])
  rw [e]; rfl
 have h3 := h2.perm (L' := [row (.slice p (i.recs.length + 1) c) 30 1 (i.recs.length + 1) (us ++ [sB q bs cq]), rB q bs cq] ++ [rB pH ((apS k i bs).head) cH, rB pA ((apS k i bs).a) cA, rB pB ((apS k i bs).b) cB]) (perm_ix [3, 4, 0, 1, 2] 5 rfl (by kernel_rfl) (by kernel_rfl))
 have h4 : St β (apR p c us i.recs.length bs :: [rB pH ((apS k i bs).head) cH, rB pA ((apS k i bs).a) cA, rB pB ((apS k i bs).b) cB]) w' := h3.merge fun a h => ⟨q, cq, h⟩
 exact h4.perm (perm_ix [1, 2, 3, 0] 4 rfl (by kernel_rfl) (by kernel_rfl))
theorem rapp_fail2 (β : Base) (w : World) (hw : St β [] w) (k : KS) (vh va vb : Value) (hH : Sl U8R β.heap vh k.head) (hA : Sl U8R β.heap va k.a) (hB : Sl U8R β.heap vb k.b) (i : KI) (ps pr : Option Addr) (cs cr : Nat) (us : List Value) (hul : us.length = i.recs.length) (hus : Cs β.heap (ba pr) us) (hu1 : us.all (·.oneCell') = true) (hpr : 0 < i.recs.length → pr = some (ba pr)) (bs : Bs) (v : Value) (hs : Sl U8R β.heap v bs) (hfit : k.fits 524288) (hB9 : i.epoch ≤ 4611686018427387904 ∧ i.next ≤ 4611686018427387904 ∧ i.size ≤ 1048576 ∧ i.recs.length ≤ 1048576) (hbl : bs.length ≤ 65536) (hroom : (k.area i.epoch).length + 24 + bs.length ≤ 262144) (hnx : i.next ≠ 4611686018427387904) (hok : ¬ apOk k i bs) : Calls Try.prog 24 #[.agg #[vh, va, vb, Ix k.power, Nx i.epoch, Nx i.next, sB ps i.state cs, sB pr i.recs cr, Nx i.size, .bool false], v] w fun r w' => ∃ pH pA pB cH cA cB, r = .returned (.tuple #[.agg (rjC pH pA pB ps pr cH cA cB cs cr (apS k i bs) i true), .int .i64 0, .int .i64 310]) ∧ St β [rB pH ((apS k i bs).head) cH, rB pA ((apS k i bs).a) cA, rB pB ((apS k i bs).b) cB] w' := by
 exact rapp_fail β w hw k vh va vb hH hA hB i ps pr cs cr us hul hus hu1 hpr bs v hs hfit hB9 hbl hroom hnx hok
theorem rckp_ok2 (β : Base) (w : World) (hw : St β [] w) (k : KS) (vh va vb : Value) (hH : Sl U8R β.heap vh k.head) (hA : Sl U8R β.heap va k.a) (hB : Sl U8R β.heap vb k.b) (i : KI) (ps pr : Option Addr) (cs cr : Nat) (bs : Bs) (v : Value) (hs : Sl U8R β.heap v bs) (hfit : k.fits 524288) (hB9 : i.epoch ≤ 4611686018427387904 ∧ i.next ≤ 4611686018427387904 ∧ i.size ≤ 1048576 ∧ i.recs.length ≤ 1048576) (hbl : bs.length ≤ 65536) (hne : i.epoch ≠ 4611686018427387903) (hok : ckOk k (i.epoch + 1) i.next bs) : Calls Try.prog 25 #[.agg #[vh, va, vb, Ix k.power, Nx i.epoch, Nx i.next, sB ps i.state cs, sB pr i.recs cr, Nx i.size, .bool false], v] w fun r w' => ∃ pH pA pB cH cA cB q cq, r = .returned (.tuple #[.agg (rjC pH pA pB q none cH cA cB cq 0 (ckS k (i.epoch + 1) i.next bs) (ckI i bs) false), .int .i64 0]) ∧ St β ([rB pH ((ckS k (i.epoch + 1) i.next bs).head) cH, rB pA ((ckS k (i.epoch + 1) i.next bs).a) cA, rB pB ((ckS k (i.epoch + 1) i.next bs).b) cB] ++ [rB q bs cq]) w' := by
 exact (rckp_all β w hw k vh va vb hH hA hB i ps pr cs cr bs v hs hfit hB9 hbl hne).mono fun r w' h => h.elim (fun h => absurd hok h.1) (fun h => h.2)
theorem rckp_no2 (β : Base) (w : World) (hw : St β [] w) (k : KS) (vh va vb : Value) (hH : Sl U8R β.heap vh k.head) (hA : Sl U8R β.heap va k.a) (hB : Sl U8R β.heap vb k.b) (i : KI) (ps pr : Option Addr) (cs cr : Nat) (bs : Bs) (v : Value) (hs : Sl U8R β.heap v bs) (hfit : k.fits 524288) (hB9 : i.epoch ≤ 4611686018427387904 ∧ i.next ≤ 4611686018427387904 ∧ i.size ≤ 1048576 ∧ i.recs.length ≤ 1048576) (hbl : bs.length ≤ 65536) (hne : i.epoch ≠ 4611686018427387903) (hok : ¬ ckOk k (i.epoch + 1) i.next bs) : Calls Try.prog 25 #[.agg #[vh, va, vb, Ix k.power, Nx i.epoch, Nx i.next, sB ps i.state cs, sB pr i.recs cr, Nx i.size, .bool false], v] w fun r w' => ∃ pH pA pB cH cA cB, r = .returned (.tuple #[.agg (rjC pH pA pB ps pr cH cA cB cs cr (ckS k (i.epoch + 1) i.next bs) i true), .int .i64 310]) ∧ St β [rB pH ((ckS k (i.epoch + 1) i.next bs).head) cH, rB pA ((ckS k (i.epoch + 1) i.next bs).a) cA, rB pB ((ckS k (i.epoch + 1) i.next bs).b) cB] w' := by
 exact (rckp_all β w hw k vh va vb hH hA hB i ps pr cs cr bs v hs hfit hB9 hbl hne).mono fun r w' h => h.elim (fun h => h.2) (fun h => absurd h.1 hok)
set_option maxHeartbeats 4000000 in
theorem tells_ok (β : Base) (w : World) (hw : St β [] w) (xs : List KOp) (v : Value) (hs : Sl OpR β.heap v xs) : Calls Try.prog 5 #[v] w fun r w' => r = .returned (.bool true) ∧ St β [] w' := by
 obtain ⟨va, vc, rfl, vl, vm, ve⟩ := hs.get
 refine enter (n := 142) Try.func5 rfl Try.ntmps5 rfl ?_ hw
 refine csr ?_
 refine lv e_assign ?_
 refine lnc ?_
 refine lv (v := .agg #[.slice none 0 0, .slice none 0 0, .slice none 0 0, .int .i64 (-1)]) (e_build tf106 tf105 (vs := [(3, .int .i64 (-1))]) (cells := #[.slice none 0 0, .slice none 0 0, .slice none 0 0, .int .i64 (-1)]) rfl rfl) ?_
 refine l_mv rfl rfl rfl (m_box (v := .agg #[.slice none 0 0, .slice none 0 0, .slice none 0 0, .int .i64 (-1)]) rfl) ?_
 rintro _ _ ⟨b1, rfl, rfl⟩
 refine lv e_assign ?_
 refine lnf ?_
 refine c_seq ?_
 refine c_emp (r := row (.slice none 0 0) 5 1 0 (BX [])) (row_nil _ _ _) ?_
 refine c_emp (r := row (.slice none 0 0) 5 1 0 (BX [])) (row_nil _ _ _) ?_
 refine c_emp (r := row (.slice none 0 0) 5 1 0 (BX [])) (row_nil _ _ _) ?_
 refine c_pi [3, 0, 1, 2] 4 rfl (by kernel_rfl) ?_
 refine c_closeStore (S := b1) (k := aK0) (pH := none) (pA := none) (pB := none) (cH := 0) (cA := 0) (cB := 0) (M := ([])) (by rfl) ?_
 refine c_region ?_
 refine lv e_move ?_
 refine l_call rfl rfl rfl (cl0 (vs := [pp b1 0]) tf167 rfl rfl) ?_
 intro w hw
 replace hw := hw.perm (L' := _ :: []) (by exact (perm_front 0 rfl))
 obtain ⟨β1, sb, kn, hw1, back⟩ := St.frame (L := [_]) (M := []) hw
 refine (opened_ok β1 w b1 aK0 (by decide) (by decide) (by decide) (by decide +kernel) (by decide) aI0 (by decide +kernel) (by decide +kernel) hw1).mono ?_
 rintro e w' ⟨J8, pH2, pA3, pB4, cH5, cA6, cB7, ps9, cs10, pr11, cr12, rfl, hw'⟩
 refine ⟨_, rfl, _, back _ _ hw', ?_⟩
 clear hw hw1 hw' back kn sb
 refine lv e_move ?_
 refine lv (v := pp J8 0) (e_extract (vs := #[pp J8 0, .agg #[sB pH2 ((cutS aK0 aI0.epoch aI0.size).head) cH5, sB pA3 ((cutS aK0 aI0.epoch aI0.size).a) cA6, sB pB4 ((cutS aK0 aI0.epoch aI0.size).b) cB7, Ix ((cutS aK0 aI0.epoch aI0.size).power), Nx (aI0.epoch), Nx (aI0.next), sB ps9 aI0.state cs10, sB pr11 aI0.recs cr12, Nx (aI0.size), .bool false], .bool true]) rfl rfl) ?_
 refine lv (v := .agg #[sB pH2 ((cutS aK0 aI0.epoch aI0.size).head) cH5, sB pA3 ((cutS aK0 aI0.epoch aI0.size).a) cA6, sB pB4 ((cutS aK0 aI0.epoch aI0.size).b) cB7, Ix ((cutS aK0 aI0.epoch aI0.size).power), Nx (aI0.epoch), Nx (aI0.next), sB ps9 aI0.state cs10, sB pr11 aI0.recs cr12, Nx (aI0.size), .bool false]) (e_extract (vs := #[pp J8 0, .agg #[sB pH2 ((cutS aK0 aI0.epoch aI0.size).head) cH5, sB pA3 ((cutS aK0 aI0.epoch aI0.size).a) cA6, sB pB4 ((cutS aK0 aI0.epoch aI0.size).b) cB7, Ix ((cutS aK0 aI0.epoch aI0.size).power), Nx (aI0.epoch), Nx (aI0.next), sB ps9 aI0.state cs10, sB pr11 aI0.recs cr12, Nx (aI0.size), .bool false], .bool true]) rfl rfl) ?_
 refine lv (v := .bool true) (e_extract (vs := #[pp J8 0, .agg #[sB pH2 ((cutS aK0 aI0.epoch aI0.size).head) cH5, sB pA3 ((cutS aK0 aI0.epoch aI0.size).a) cA6, sB pB4 ((cutS aK0 aI0.epoch aI0.size).b) cB7, Ix ((cutS aK0 aI0.epoch aI0.size).power), Nx (aI0.epoch), Nx (aI0.next), sB ps9 aI0.state cs10, sB pr11 aI0.recs cr12, Nx (aI0.size), .bool false], .bool true]) rfl rfl) ?_
 refine l_mv rfl rfl rfl (m_alloc tf151) ?_
 rintro _ _ ⟨b13, rfl, rfl⟩
 refine lv e_assign ?_
 refine lu (m_store 0 tf154 (cs' := #[sB pH2 ((cutS aK0 aI0.epoch aI0.size).head) cH5, sB pA3 ((cutS aK0 aI0.epoch aI0.size).a) cA6, sB pB4 ((cutS aK0 aI0.epoch aI0.size).b) cB7, Ix ((cutS aK0 aI0.epoch aI0.size).power), Nx (aI0.epoch), Nx (aI0.next), sB ps9 aI0.state cs10, sB pr11 aI0.recs cr12, Nx (aI0.size), .bool false]) rfl rfl rfl rfl rfl rfl rfl) ?_
 refine lv e_assign ?_
 refine lnf ?_
 refine cs2 ?_
 refine c_region ?_
 refine lv e_move ?_
 refine lv (v := .bool false) (e_not (a := true) rfl) ?_
 refine lv e_move ?_
 refine g_val (v := pp J8 0) rfl rfl rfl rfl rfl e_move ?_
 refine g_val (v := .bool false) rfl rfl rfl rfl rfl (e_eql_pnil (p := some (⟨J8, 0, none⟩)) rfl rfl tf36) ?_
 refine lv (v := .bool false) (e_pick_f rfl) ?_
 refine lnf ?_
 refine c_no rfl ?_
 refine csk ?_
 refine cs2 ?_
 refine c_region ?_
 refine lv e_move ?_
 refine lv e_move ?_
 refine lv (v := Nx (xs.length)) (e_len (a := va) (n := xs.length) (c := vc) rfl tf108) ?_
 refine lv (v := Nx (min xs.length 40)) (ev_eq (congrArg (Value.int .i64) (by omega)) (e_min (a := ((xs.length : Nat) : Int)) (b := (40 : Int)) rfl rfl)) ?_
 obtain ⟨zs14, hz15⟩ : ∃ zs, zs = (xs.take (min xs.length 40)) := ⟨_, rfl⟩
 have zl16 : zs14.length = min (min xs.length 40) (xs).length - 0 := by rw [hz15]; simp; try omega
 have ze17 := (Elems.take (min xs.length 40) ve)
 rw [← hz15] at ze17
 refine lv (v := .slice va (zs14.length) (vc)) (ev_eq (by rw [show zs14.length = min xs.length 40 by omega]) (e_slice_hi (a := va) (len := xs.length) (cap := vc) (h := min xs.length 40) tf109 rfl rfl (by omega))) ?_
 refine lv (v := Nx (zs14.length)) (e_len (a := va) (n := zs14.length) (c := vc) rfl tf108) ?_
 refine lv e_move ?_
 refine lnf ?_
 refine c_block ?_
 refine c_pi [0, 3, 1, 2] 4 rfl (by kernel_rfl) ?_
 refine c_seal (K := [pt b13 (.cells #[sB pH2 ((cutS aK0 aI0.epoch aI0.size).head) cH5, sB pA3 ((cutS aK0 aI0.epoch aI0.size).a) cA6, sB pB4 ((cutS aK0 aI0.epoch aI0.size).b) cB7, Ix ((cutS aK0 aI0.epoch aI0.size).power), Nx (aI0.epoch), Nx (aI0.next), sB ps9 aI0.state cs10, sB pr11 aI0.recs cr12, Nx (aI0.size), .bool false] 56), memR (sB pH2 (cutS aK0 aI0.epoch aI0.size).head cH5) (sB pA3 (cutS aK0 aI0.epoch aI0.size).a cA6) (sB pB4 (cutS aK0 aI0.epoch aI0.size).b cB7) (sB ps9 aI0.state cs10) (sB pr11 aI0.recs cr12) (cutS aK0 aI0.epoch aI0.size) aI0]) (F := rjE b13 (cutS aK0 aI0.epoch aI0.size) aI0 false) rfl (fun _ h => ⟨_, _, _, _, _, _, _, _, _, _, h⟩) ?_
 refine c_pi [1, 2, 0] 3 rfl (by kernel_rfl) ?_
 refine c_mask [true, true, true] rfl ?_
 refine c_loop (fun (x_ : Nat × Nat × KS × KI × Nat) (f : Fm) (L : List Res) => match x_ with | (k, md, K, I, Jn) => (f 3 = pp b1 0 ∧ f 4 = jval md Jn ∧ f 5 = pp b13 0 ∧ f 36 = sB va zs14 (vc) ∧ f 37 = Nx (zs14.length) ∧ f 38 = Nx (k)) ∧ L = [jm md Jn b1 I, storeR b1 K, rjE b13 K I (dnB md)] ∧ (k ≤ zs14.length ∧ md ≤ 2 ∧ SmI I ∧ (md = 1 → Inv K I k true) ∧ (∃ i, Inv K i k false) ∧ (md = 0 → I = zI))) (fun (x_ : Nat × Nat × KS × KI × Nat) => match x_ with | (k, md, K, I, Jn) => zs14.length - k) (0, 1, (cutS aK0 aI0.epoch aI0.size), aI0, J8) ?_ ?_
 ·exact ⟨⟨rfl, rfl, rfl, rfl, rfl, rfl⟩, rfl, ⟨by omega, by omega, aw_inv0.sm (by omega), fun _ => aw_inv0, ⟨_, aw_inv0.any⟩, fun h => by omega⟩⟩
 rintro ⟨k, md, K, I, Jn⟩ f0 L0 ⟨⟨hs3, hs4, hs5, hs36, hs37, hs38⟩, hL, ⟨hk, hmd, hS, hI1, hIx, hz0⟩⟩
 subst L0
 refine rebase (d := 3) hs3 ?_
 refine rebase (d := 4) hs4 ?_
 refine rebase (d := 5) hs5 ?_
 refine rebase (d := 36) hs36 ?_
 refine rebase (d := 37) hs37 ?_
 refine rebase (d := 38) hs38 ?_
 clear hs3 hs4 hs5 hs36 hs37 hs38
 have hk40 : k ≤ 40 := by omega
 obtain ⟨ix, hIx⟩ := hIx
 have hfit := hIx.fits (show k ≤ 100 by omega)
 refine csr ?_
 refine lv (e_lss (a := ((k : Nat) : Int)) (b := ((zs14.length : Nat) : Int)) rfl rfl) ?_
 refine lnf ?_
 refine c_seq ?_
 refine c_if (((k : Nat) : Int) < ((zs14.length : Nat) : Int)) rfl (fun hc18 => ?_) (fun hc18 => ?_)
 ·refine csk ?_
  refine c_seq ?_
  refine c_block ?_
  refine c_seq ?_
  refine c_pi [2, 0, 1] 3 rfl (by kernel_rfl) ?_
  refine c_openRj (B := b13) (k := K) (i := I) (dn := (dnB md)) (M := (jm md Jn b1 I :: storeR b1 K :: [])) rfl (fun pH19 pA20 pB21 ps25 pr27 cH22 cA23 cB24 cs26 cr28 us hul hu1 hpr => ?_)
  refine c_region ?_
  obtain ⟨x29, hx30⟩ : ∃ x_, (zs14)[k]? = some x_ := ⟨_, List.getElem?_eq_getElem (by omega)⟩
  obtain ⟨ha31, cs32, hc33, hr34⟩ := ze17 _ _ hx30
  obtain ⟨v35, rfl, hv36⟩ := hr34
  obtain ⟨a37, c38, rfl, hl39, hm40, he41⟩ := (hv36).get
  refine lv (v := .pointer (some ((ba va).add (k * 3)))) (e_indexAddr (k := k) (len := zs14.length) (cap := vc) (a := va) rfl rfl tf109 (by omega) ha31) ?_
  refine lv (v := .agg #[Bx (x29.kind), Bx (x29.power), sB a37 x29.body (c38)]) (e_load tf87 rfl (kB hc33) rfl) ?_
  refine l_mv rfl rfl rfl (m_alloc tf84) ?_
  rintro _ _ ⟨b42, rfl, rfl⟩
  refine lu (m_store 0 tf87 (cs' := #[Bx (x29.kind), Bx (x29.power), sB a37 x29.body (c38)]) rfl rfl rfl rfl rfl rfl rfl) ?_
  refine lnc ?_
  refine lv (v := .agg #[Bx (x29.kind), Bx (x29.power), sB a37 x29.body (c38)]) (e_load tf87 rfl (k_pt 0 rfl rfl) rfl) ?_
  refine lcf (cl0 (vs := [.agg #[Bx (x29.kind), Bx (x29.power), sB a37 x29.body (c38)]]) tf100 rfl rfl) rfl fun w β1 sb kn hw1 back => (body_ok β1 w hw1 x29 a37 c38 (by omega) (by omega) (Elems.mono _ _ _ _ _ sb he41)).mono ?_
  rintro e w' ⟨rfl, hw'⟩
  refine ⟨_, rfl, _, back _ _ hw', ?_⟩
  clear hw1 hw' back kn sb
  refine lcf (cl0 (vs := [sB a37 (x29.body.take 300) (c38)]) tf168 rfl rfl) rfl fun w β1 sb kn hw1 back => (lentb_ok β1 w hw1 (x29.body.take 300) _ (by first | omega | (simp; omega)) (Sl.mono _ _ _ _ _ sb (⟨⟨_, _, rfl, by simp only [List.length_take]; omega, by omega, Elems.take 300 he41⟩⟩ : Sl U8R _ _ (x29.body.take 300)))).mono ?_
  rintro e w' ⟨p43, c44, rfl, hw'⟩
  refine ⟨_, rfl, _, back _ _ hw', ?_⟩
  clear hw1 hw' back kn sb
  refine lv e_assign ?_
  refine lnf ?_
  refine c_seq_cut (fun (f : Fm) (L : List Res) => ∃ (md2 : Nat) (K2 : KS) (I2 : KI) (Jn2 : Nat), (f 3 = pp b1 0 ∧ f 5 = pp b13 0 ∧ f 8 = pp b42 0 ∧ f 9 = sB p43 ((x29.body.take 300)) c44 ∧ f 36 = sB va zs14 (vc) ∧ f 37 = Nx (zs14.length) ∧ f 38 = Nx (k) ∧ f 4 = jval md2 Jn2) ∧ L = [jm md2 Jn2 b1 I2, storeR b1 K2, rjE b13 K2 I2 (dnB md2), rB p43 (lentX (x29.body.take 300)) c44, pt b42 (.cells #[Bx (x29.kind), Bx (x29.power), sB a37 x29.body (c38)] 47)] ∧ md2 ≤ 2 ∧ SmI I2 ∧ (md2 = 1 → Inv K2 I2 (k + 1) true) ∧ (∃ i, Inv K2 i (k + 1) false) ∧ (md2 = 0 → I2 = zI)) ?_ ?_
  ·refine csr ?_
   refine lv (e_fieldPt rfl tf85) ?_
   refine lv (v := Bx (x29.kind)) (e_load1 tf13 rfl (k_pt 1 rfl rfl)) ?_
   refine lv (v := .int .u8 (((x29.kind.toNat % 5 : Nat)) : Int)) (e_rem (a := ((x29.kind).toNat : Int)) (b := ((5 : Nat) : Int)) rfl rfl (by decide) (nat_tmod _ _)) ?_
   refine lnf ?_
   refine c_block ?_
   refine c_seq_cut (fun (f : Fm) (L : List Res) => (f 3 = pp b1 0 ∧ f 4 = jval md Jn ∧ f 5 = pp b13 0 ∧ f 8 = pp b42 0 ∧ f 9 = sB p43 ((x29.body.take 300)) c44 ∧ f 36 = sB va zs14 (vc) ∧ f 37 = Nx (zs14.length) ∧ f 38 = Nx (k) ∧ f 47 = .int .u8 (((x29.kind.toNat % 5 : Nat)) : Int) ∧ f 56 = .bool (decide (((x29.kind.toNat % 5 : Nat) : Int) ≤ (1 : Int)))) ∧ L = [rB p43 (lentX (x29.body.take 300)) c44, pt b42 (.cells #[Bx (x29.kind), Bx (x29.power), sB a37 x29.body (c38)] 47), pt b13 (.cells #[sB pH19 K.head cH22, sB pA20 K.a cA23, sB pB21 K.b cB24, Ix (K.power), Nx (I.epoch), Nx (I.next), sB ps25 I.state cs26, sB pr27 I.recs cr28, Nx (I.size), .bool (dnB md)] 56), memV pH19 pA20 pB21 ps25 pr27 cH22 cA23 cB24 cs26 cr28 us K I, jm md Jn b1 I, storeR b1 K]) ?_ ?_
   ·refine csr ?_
    refine lv (e_eql (a := ((x29.kind.toNat % 5 : Nat) : Int)) (b := (0 : Int)) rfl rfl) ?_
    refine lv e_assign ?_
    refine lnf ?_
    refine c_if (((x29.kind.toNat % 5 : Nat) : Int) = (0 : Int)) rfl (fun hc45 => ?_) (fun hc45 => ?_)
    ·refine c_skip ?_
     exact f_cut ⟨⟨rfl, rfl, rfl, rfl, rfl, rfl, rfl, rfl, rfl, congrArg Value.bool (decide_eq_decide.2 (by omega))⟩, rfl⟩
    refine c_region ?_
    refine lv (e_eql (a := ((x29.kind.toNat % 5 : Nat) : Int)) (b := (1 : Int)) rfl rfl) ?_
    refine lv e_assign ?_
    refine l_nil ?_
    exact f_cut ⟨⟨rfl, rfl, rfl, rfl, rfl, rfl, rfl, rfl, rfl, congrArg Value.bool (decide_eq_decide.2 (by omega))⟩, rfl⟩
   rintro f0 L0 ⟨⟨hs3, hs4, hs5, hs8, hs9, hs36, hs37, hs38, hs47, hs56⟩, hL⟩
   subst L0
   refine rebase (d := 3) hs3 ?_
   refine rebase (d := 4) hs4 ?_
   refine rebase (d := 5) hs5 ?_
   refine rebase (d := 8) hs8 ?_
   refine rebase (d := 9) hs9 ?_
   refine rebase (d := 36) hs36 ?_
   refine rebase (d := 37) hs37 ?_
   refine rebase (d := 38) hs38 ?_
   refine rebase (d := 47) hs47 ?_
   refine rebase (d := 56) hs56 ?_
   clear hs56 hs3 hs4 hs5 hs8 hs9 hs36 hs37 hs38 hs47
   refine c_if (((x29.kind.toNat % 5 : Nat) : Int) ≤ (1 : Int)) rfl (fun hc46 => ?_) (fun hc46 => ?_)
   ·refine cs2 ?_
    rcases (show md = 0 ∨ md = 1 ∨ md = 2 from by omega) with rfl | rfl | rfl
    ·refine rebase (d := 4) (v := .pointer none) rfl ?_
     refine c_re (L' := [rB p43 (lentX (x29.body.take 300)) c44, pt b42 (.cells #[Bx (x29.kind), Bx (x29.power), sB a37 x29.body (c38)] 47), pt b13 (.cells #[sB pH19 K.head cH22, sB pA20 K.a cA23, sB pB21 K.b cB24, Ix (K.power), Nx (I.epoch), Nx (I.next), sB ps25 I.state cs26, sB pr27 I.recs cr28, Nx (I.size), .bool false] 56), memV pH19 pA20 pB21 ps25 pr27 cH22 cA23 cB24 cs26 cr28 us K I, jm 0 Jn b1 I, storeR b1 K]) (by rfl) ?_
     refine c_region ?_
     refine lv e_move ?_
     refine lv (v := .bool true) (e_eql_pnil (p := none) rfl rfl tf36) ?_
     refine lnf ?_
     refine c_yes rfl ?_
     refine c_exit ?_
     refine f_then_exit ?_
     refine f_exit_other rfl ?_
     refine f_then_exit ?_
     refine f_exit ?_
     refine f_then ?_
     refine c_pi [2, 3, 0, 1, 4, 5] 6 rfl (by kernel_rfl) ?_
     refine c_seal (K := [pt b13 (.cells #[sB pH19 K.head cH22, sB pA20 K.a cA23, sB pB21 K.b cB24, Ix (K.power), Nx (I.epoch), Nx (I.next), sB ps25 I.state cs26, sB pr27 I.recs cr28, Nx (I.size), .bool false] 56), memV pH19 pA20 pB21 ps25 pr27 cH22 cA23 cB24 cs26 cr28 us K I]) (F := rjE b13 K I false) rfl (fun _ h => ⟨_, _, _, _, _, _, _, _, _, _, sat_UR h⟩) ?_
     refine c_region ?_
     refine lv (v := Nx (k + 1)) (e_add (a := ((k : Nat) : Int)) (b := (1 : Int)) rfl rfl (i64n (by omega) (by omega))) ?_
     refine lv e_move ?_
     refine l_nil ?_
     refine f_perm (L' := [jm 0 Jn b1 I, storeR b1 K, rjE b13 K I false, rB p43 (lentX (x29.body.take 300)) c44, pt b42 (.cells #[Bx (x29.kind), Bx (x29.power), sB a37 x29.body (c38)] 47)]) (perm_ix [3, 4, 0, 1, 2] 5 rfl (by kernel_rfl) (by kernel_rfl)) ?_
     refine f_mask (L' := [jm 0 Jn b1 I, storeR b1 K, rjE b13 K I false]) [true, true, true, false, false] rfl ?_
     exact f_cut ⟨(k + 1, 0, K, I, Jn), ⟨⟨rfl, rfl, rfl, rfl, rfl, rfl⟩, rfl, ⟨by omega, by omega, hS, fun h => by omega, ⟨ix, hIx.mono (by omega)⟩, hz0⟩⟩, (show zs14.length - (k + 1) < zs14.length - k from by omega)⟩
    ·refine rebase (d := 4) (v := pp Jn 0) rfl ?_
     refine c_re (L' := [rB p43 (lentX (x29.body.take 300)) c44, pt b42 (.cells #[Bx (x29.kind), Bx (x29.power), sB a37 x29.body (c38)] 47), pt b13 (.cells #[sB pH19 K.head cH22, sB pA20 K.a cA23, sB pB21 K.b cB24, Ix (K.power), Nx (I.epoch), Nx (I.next), sB ps25 I.state cs26, sB pr27 I.recs cr28, Nx (I.size), .bool false] 56), memV pH19 pA20 pB21 ps25 pr27 cH22 cA23 cB24 cs26 cr28 us K I, jourR Jn b1 I false, storeR b1 K]) (by rfl) ?_
     have hI := hI1 rfl
     have hnN := hI.nN
     have hsz0 := hI.sz
     have heN := hI.eN
     have hrl0 := hI.wf.next
     have hla := hI.la
     have hlb := hI.lb
     have hln := hS.len
     refine c_region ?_
     refine lv e_move ?_
     refine lv (v := .bool false) (e_eql_pnil (p := some (⟨Jn, 0, none⟩)) rfl rfl tf36) ?_
     refine lnf ?_
     refine c_no rfl ?_
     refine csk ?_
     refine c_seq ?_
     by_cases hc : apOk K I (x29.body.take 300)
     ·have hI2 := hI.ap_ok (by omega) (by simp; omega) hc
      refine c_region ?_
      refine lv e_move ?_
      refine lv e_move ?_
      refine l_call rfl rfl rfl (cl0 (vs := [pp Jn 0, sB p43 ((x29.body.take 300)) c44]) tf102 rfl rfl) ?_
      intro w hw
      replace hw := hw.perm (L' := _ :: _ :: _ :: _ :: _ :: _ :: []) (by exact ((((((perm_front 3 rfl).trans (perm_front 3 rfl)).trans (perm_front 3 rfl)).trans (perm_front 3 rfl)).trans (perm_front 5 rfl)).trans (perm_front 5 rfl)))
      obtain ⟨β1, sb, kn, hw1, back⟩ := St.frame (L := [_, _]) (M := _ :: _ :: _ :: _ :: []) hw
      refine (append_ok β1 w Jn b1 K I (x29.body.take 300) (by simp; omega) hfit (by omega) (by omega) (by omega) (by simp; omega) (by omega) hc _ (kn _ (Knows.of_res 0 rfl (Sl.mono U8R _ _) fun _ h => lent_sl h)) hw1).mono ?_
      rintro e w' ⟨rfl, hw'⟩
      refine ⟨_, rfl, _, back _ _ hw', ?_⟩
      clear hw hw1 hw' back kn sb
      refine lv e_move ?_
      refine lv (v := Nx (I.next)) (e_extract (vs := #[Nx (I.next), .int .i64 (0)]) rfl rfl) ?_
      refine lv (v := .int .i64 (0)) (e_extract (vs := #[Nx (I.next), .int .i64 (0)]) rfl rfl) ?_
      refine lv e_assign ?_
      refine lv e_assign ?_
      refine lnf ?_
      refine c_seq ?_
      refine c_any [⟨[], [], [0], [68], fun f => f 68 = .agg #[sB pH19 K.head cH22, sB pA20 K.a cA23, sB pB21 K.b cB24, Ix (K.power), Nx (I.epoch), Nx (I.next), sB ps25 I.state cs26, sB pr27 I.recs cr28, Nx (I.size), .bool false]⟩, ⟨[], [], [1], [69], fun f => f 69 = .agg #[Bx (x29.kind), Bx (x29.power), sB a37 x29.body (c38)]⟩, ⟨[1], [1], [], [70], fun f => f 70 = sB a37 (x29.body.take 300) (c38)⟩, ⟨[0, 1, 2], [0, 2], [], [71], fun f => f 71 = .tuple #[.agg #[sB (sla (prt 0 (prt 0 (f 71)))) ((apS K I (x29.body.take 300)).head) (slc (prt 0 (prt 0 (f 71)))), sB (sla (prt 1 (prt 0 (f 71)))) ((apS K I (x29.body.take 300)).a) (slc (prt 1 (prt 0 (f 71)))), sB (sla (prt 2 (prt 0 (f 71)))) ((apS K I (x29.body.take 300)).b) (slc (prt 2 (prt 0 (f 71)))), Ix ((apS K I (x29.body.take 300)).power), Nx ((apI I (x29.body.take 300)).epoch), Nx ((apI I (x29.body.take 300)).next), sB ps25 (apI I (x29.body.take 300)).state cs26, sB (sla (prt 7 (prt 0 (f 71)))) (apI I (x29.body.take 300)).recs (slc (prt 7 (prt 0 (f 71)))), Nx ((apI I (x29.body.take 300)).size), .bool false], Nx (I.next), .int .i64 (0)]⟩, ⟨[0, 1, 2, 3], [3], [], [67, 71], fun f => f 67 = .tuple #[.agg #[sB (sla (prt 0 (prt 0 (f 71)))) ((apS K I (x29.body.take 300)).head) (slc (prt 0 (prt 0 (f 71)))), sB (sla (prt 1 (prt 0 (f 71)))) ((apS K I (x29.body.take 300)).a) (slc (prt 1 (prt 0 (f 71)))), sB (sla (prt 2 (prt 0 (f 71)))) ((apS K I (x29.body.take 300)).b) (slc (prt 2 (prt 0 (f 71)))), Ix ((apS K I (x29.body.take 300)).power), Nx ((apI I (x29.body.take 300)).epoch), Nx ((apI I (x29.body.take 300)).next), sB ps25 (apI I (x29.body.take 300)).state cs26, sB (sla (prt 7 (prt 0 (f 71)))) (apI I (x29.body.take 300)).recs (slc (prt 7 (prt 0 (f 71)))), Nx ((apI I (x29.body.take 300)).size), .bool false], Nx (I.next), .int .i64 (0)]⟩, ⟨[0, 1, 2, 3, 4], [4], [], [71, 72], fun f => f 72 = .agg #[sB (sla (prt 0 (prt 0 (f 71)))) ((apS K I (x29.body.take 300)).head) (slc (prt 0 (prt 0 (f 71)))), sB (sla (prt 1 (prt 0 (f 71)))) ((apS K I (x29.body.take 300)).a) (slc (prt 1 (prt 0 (f 71)))), sB (sla (prt 2 (prt 0 (f 71)))) ((apS K I (x29.body.take 300)).b) (slc (prt 2 (prt 0 (f 71)))), Ix ((apS K I (x29.body.take 300)).power), Nx ((apI I (x29.body.take 300)).epoch), Nx ((apI I (x29.body.take 300)).next), sB ps25 (apI I (x29.body.take 300)).state cs26, sB (sla (prt 7 (prt 0 (f 71)))) (apI I (x29.body.take 300)).recs (slc (prt 7 (prt 0 (f 71)))), Nx ((apI I (x29.body.take 300)).size), .bool false]⟩, ⟨[0, 1, 2, 3, 4], [4], [], [73], fun f => f 73 = Nx (I.next)⟩, ⟨[0, 1, 2, 3, 4], [4], [], [74], fun f => f 74 = .int .i64 (0)⟩, ⟨[], [], [], [12], fun f => f 12 = .pointer (some ⟨(blk (f 12)), 0, none⟩)⟩, ⟨[0, 1, 2, 3, 4, 5, 8], [8, 5], [], [], fun _ => True⟩, ⟨[0, 1, 2, 3, 4, 5, 6, 8, 9], [6], [], [13], fun f => f 13 = Nx (I.next)⟩, ⟨(List.range 11), [7], [], [14], fun f => f 14 = .int .i64 (0)⟩] [⟨none, none, [], [], fun _ => jourR Jn b1 (apI I (x29.body.take 300)) false⟩, ⟨none, none, [], [], fun _ => storeR b1 (apS K I (x29.body.take 300))⟩, ⟨none, none, [], [], fun _ => rB p43 (lentX (x29.body.take 300)) c44⟩, ⟨none, none, [1], [], fun _ => pt b42 (.cells #[Bx (x29.kind), Bx (x29.power), sB a37 x29.body (c38)] 47)⟩, ⟨none, none, [0], [], fun _ => pt b13 (.cells #[sB pH19 K.head cH22, sB pA20 K.a cA23, sB pB21 K.b cB24, Ix (K.power), Nx (I.epoch), Nx (I.next), sB ps25 I.state cs26, sB pr27 I.recs cr28, Nx (I.size), .bool false] 56)⟩, ⟨none, none, [3], [], fun _ => memV pH19 pA20 pB21 ps25 pr27 cH22 cA23 cB24 cs26 cr28 us K I⟩, ⟨(some 3), none, [], [71], fun f => rB (sla (prt 0 (prt 0 (f 71)))) ((apS K I (x29.body.take 300)).head) (slc (prt 0 (prt 0 (f 71))))⟩, ⟨(some 3), none, [], [71], fun f => rB (sla (prt 1 (prt 0 (f 71)))) ((apS K I (x29.body.take 300)).a) (slc (prt 1 (prt 0 (f 71))))⟩, ⟨(some 3), none, [], [71], fun f => rB (sla (prt 2 (prt 0 (f 71)))) ((apS K I (x29.body.take 300)).b) (slc (prt 2 (prt 0 (f 71))))⟩, ⟨(some 3), none, [], [71], fun f => apR (sla (prt 7 (prt 0 (f 71)))) (slc (prt 7 (prt 0 (f 71)))) us I.recs.length (x29.body.take 300)⟩, ⟨(some 8), (some 9), [9], [12], fun f => pt (blk (f 12)) (.cells #[.slice none 0 0, .slice none 0 0, .slice none 0 0, .int .i64 (0), .int .i64 (0), .int .i64 (0), .slice none 0 0, .slice none 0 0, .int .i64 (0), .bool false] 56)⟩, ⟨(some 9), none, [], [12, 71], fun f => pt (blk (f 12)) (.cells #[sB (sla (prt 0 (prt 0 (f 71)))) ((apS K I (x29.body.take 300)).head) (slc (prt 0 (prt 0 (f 71)))), sB (sla (prt 1 (prt 0 (f 71)))) ((apS K I (x29.body.take 300)).a) (slc (prt 1 (prt 0 (f 71)))), sB (sla (prt 2 (prt 0 (f 71)))) ((apS K I (x29.body.take 300)).b) (slc (prt 2 (prt 0 (f 71)))), Ix ((apS K I (x29.body.take 300)).power), Nx ((apI I (x29.body.take 300)).epoch), Nx ((apI I (x29.body.take 300)).next), sB ps25 (apI I (x29.body.take 300)).state cs26, sB (sla (prt 7 (prt 0 (f 71)))) (apI I (x29.body.take 300)).recs (slc (prt 7 (prt 0 (f 71)))), Nx ((apI I (x29.body.take 300)).size), .bool false] 56)⟩] [(5, pp b13 0), (8, pp b42 0), (3, pp b1 0), (4, pp Jn 0), (9, sB p43 ((x29.body.take 300)) c44), (10, Nx (I.next)), (11, .int .i64 (0)), (36, sB va zs14 (vc)), (37, Nx (zs14.length)), (38, Nx (k))] [2, 3, 0, 1, 4, 5, 6, 7, 8, 9] [] (by kernel_rfl) (by kernel_rfl) (by kernel_rfl) (by kernel_rfl) rfl ⟨rfl, rfl, rfl, rfl, rfl, rfl, rfl, rfl, rfl, rfl, trivial⟩ ⟨?_, ?_, ?_, ?_, ?_, ?_, ?_, ?_, ?_, ?_, ?_, ?_, trivial⟩ ?_
      ·rintro f M - ⟨i0, -⟩
       exact obv (L' := pt b13 (.cells #[sB pH19 K.head cH22, sB pA20 K.a cA23, sB pB21 K.b cB24, Ix (K.power), Nx (I.epoch), Nx (I.next), sB ps25 I.state cs26, sB pr27 I.recs cr28, Nx (I.size), .bool false] 56) :: M) (up_cons (d := 5) rfl i0) rfl (e_load tf154 rfl (k_pt 0 rfl rfl) rfl) (perm_front 0 rfl) (by rfl)
      ·rintro f M - ⟨i0, -⟩
       exact obv (L' := pt b42 (.cells #[Bx (x29.kind), Bx (x29.power), sB a37 x29.body (c38)] 47) :: M) (up_cons (d := 8) rfl i0) rfl (e_load tf87 rfl (k_pt 0 rfl rfl) rfl) (perm_front 0 rfl) (by rfl)
      ·rintro f M ⟨k0, -⟩ -
       refine ob_start (L' := M) (by rfl) (up_cons (d := 69) rfl k0) ?_
       refine lcf (cl0 (vs := [.agg #[Bx (x29.kind), Bx (x29.power), sB a37 x29.body (c38)]]) tf100 rfl rfl) rfl fun w β1 sb kn hw1 back => (body_ok β1 w hw1 x29 a37 c38 (by omega) (by omega) (Elems.mono _ _ _ _ _ sb he41)).mono ?_
       rintro e w' ⟨rfl, hw'⟩
       refine ⟨_, rfl, _, back _ _ hw', ?_⟩
       clear hw1 hw' back kn sb
       refine l_nil ?_
       exact f_owes_d (up_cons (d := 69) rfl k0) rfl (List.Perm.refl _)
      ·rintro f M ⟨k0, k1, -⟩ -
       refine ob_start (L' := memV pH19 pA20 pB21 ps25 pr27 cH22 cA23 cB24 cs26 cr28 us K I :: M) (by rfl) (up_cons (d := 70) (up_cons (d := 68) rfl k0) k1) ?_
       refine lcf (cl0 (vs := [.agg #[sB pH19 K.head cH22, sB pA20 K.a cA23, sB pB21 K.b cB24, Ix (K.power), Nx (I.epoch), Nx (I.next), sB ps25 I.state cs26, sB pr27 I.recs cr28, Nx (I.size), .bool false], sB a37 (x29.body.take 300) (c38)]) tf169 rfl rfl) rfl fun w β1 sb kn hw1 back => (rapp_ok2 β1 w hw1 K _ _ _ (kn _ (Knows.of_res 0 rfl (Sl.mono U8R _ _) fun _ h => h.1)) (kn _ (Knows.of_res 0 rfl (Sl.mono U8R _ _) fun _ h => h.2.1)) (kn _ (Knows.of_res 0 rfl (Sl.mono U8R _ _) fun _ h => h.2.2.1)) I ps25 pr27 cs26 cr28 us hul (kn (fun h => Cs h (ba pr27) us) (Knows.of_res 0 rfl (Cs.mono _ _) fun _ h => h.2.2.2.2.1)) hu1 hpr (x29.body.take 300) _ (Sl.mono _ _ _ _ _ sb (⟨⟨_, _, rfl, by simp only [List.length_take]; omega, by omega, Elems.take 300 he41⟩⟩ : Sl U8R _ _ (x29.body.take 300))) hfit ⟨by omega, by omega, by omega, by omega⟩ (by simp; omega) (by have := area_both (P := fun z => z.length ≤ 324 * (k + 2)) hla hlb I.epoch; simp only [List.length_take]; omega) (by omega) hc).mono ?_
       rintro e w' ⟨pH55, pA56, pB57, cH58, cA59, cB60, p61, c62, rfl, hw'⟩
       refine ⟨_, rfl, _, back _ _ hw', ?_⟩
       clear hw1 hw' back kn sb
       refine l_nil ?_
       exact f_owes_d (up_cons (d := 70) (up_cons (d := 68) rfl k0) k1) rfl (((((perm_front 3 rfl).trans (perm_front 3 rfl)).trans (perm_front 3 rfl)).trans (perm_front 3 rfl)).trans (perm_front 4 rfl))
      ·rintro f M ⟨k0, -⟩ -
       have hs71 : f 71 = .tuple #[.agg #[sB (sla (prt 0 (prt 0 (f 71)))) ((apS K I (x29.body.take 300)).head) (slc (prt 0 (prt 0 (f 71)))), sB (sla (prt 1 (prt 0 (f 71)))) ((apS K I (x29.body.take 300)).a) (slc (prt 1 (prt 0 (f 71)))), sB (sla (prt 2 (prt 0 (f 71)))) ((apS K I (x29.body.take 300)).b) (slc (prt 2 (prt 0 (f 71)))), Ix ((apS K I (x29.body.take 300)).power), Nx ((apI I (x29.body.take 300)).epoch), Nx ((apI I (x29.body.take 300)).next), sB ps25 (apI I (x29.body.take 300)).state cs26, sB (sla (prt 7 (prt 0 (f 71)))) (apI I (x29.body.take 300)).recs (slc (prt 7 (prt 0 (f 71)))), Nx ((apI I (x29.body.take 300)).size), .bool false], Nx (I.next), .int .i64 (0)] := k0
       exact ob0 (up_cons rfl hs71) rfl e_move (.refl _)
      ·rintro f M ⟨k0, -⟩ -
       have hs67 : f 67 = .tuple #[.agg #[sB (sla (prt 0 (prt 0 (f 71)))) ((apS K I (x29.body.take 300)).head) (slc (prt 0 (prt 0 (f 71)))), sB (sla (prt 1 (prt 0 (f 71)))) ((apS K I (x29.body.take 300)).a) (slc (prt 1 (prt 0 (f 71)))), sB (sla (prt 2 (prt 0 (f 71)))) ((apS K I (x29.body.take 300)).b) (slc (prt 2 (prt 0 (f 71)))), Ix ((apS K I (x29.body.take 300)).power), Nx ((apI I (x29.body.take 300)).epoch), Nx ((apI I (x29.body.take 300)).next), sB ps25 (apI I (x29.body.take 300)).state cs26, sB (sla (prt 7 (prt 0 (f 71)))) (apI I (x29.body.take 300)).recs (slc (prt 7 (prt 0 (f 71)))), Nx ((apI I (x29.body.take 300)).size), .bool false], Nx (I.next), .int .i64 (0)] := k0
       exact ob0 (up_cons rfl hs67) rfl (e_extract (vs := #[.agg #[sB (sla (prt 0 (prt 0 (f 71)))) ((apS K I (x29.body.take 300)).head) (slc (prt 0 (prt 0 (f 71)))), sB (sla (prt 1 (prt 0 (f 71)))) ((apS K I (x29.body.take 300)).a) (slc (prt 1 (prt 0 (f 71)))), sB (sla (prt 2 (prt 0 (f 71)))) ((apS K I (x29.body.take 300)).b) (slc (prt 2 (prt 0 (f 71)))), Ix ((apS K I (x29.body.take 300)).power), Nx ((apI I (x29.body.take 300)).epoch), Nx ((apI I (x29.body.take 300)).next), sB ps25 (apI I (x29.body.take 300)).state cs26, sB (sla (prt 7 (prt 0 (f 71)))) (apI I (x29.body.take 300)).recs (slc (prt 7 (prt 0 (f 71)))), Nx ((apI I (x29.body.take 300)).size), .bool false], Nx (I.next), .int .i64 (0)]) rfl rfl) (.refl _)
      ·rintro f M ⟨k0, -⟩ -
       have hs67 : f 67 = .tuple #[.agg #[sB (sla (prt 0 (prt 0 (f 71)))) ((apS K I (x29.body.take 300)).head) (slc (prt 0 (prt 0 (f 71)))), sB (sla (prt 1 (prt 0 (f 71)))) ((apS K I (x29.body.take 300)).a) (slc (prt 1 (prt 0 (f 71)))), sB (sla (prt 2 (prt 0 (f 71)))) ((apS K I (x29.body.take 300)).b) (slc (prt 2 (prt 0 (f 71)))), Ix ((apS K I (x29.body.take 300)).power), Nx ((apI I (x29.body.take 300)).epoch), Nx ((apI I (x29.body.take 300)).next), sB ps25 (apI I (x29.body.take 300)).state cs26, sB (sla (prt 7 (prt 0 (f 71)))) (apI I (x29.body.take 300)).recs (slc (prt 7 (prt 0 (f 71)))), Nx ((apI I (x29.body.take 300)).size), .bool false], Nx (I.next), .int .i64 (0)] := k0
       exact ob0 (up_cons rfl hs67) rfl (e_extract (vs := #[.agg #[sB (sla (prt 0 (prt 0 (f 71)))) ((apS K I (x29.body.take 300)).head) (slc (prt 0 (prt 0 (f 71)))), sB (sla (prt 1 (prt 0 (f 71)))) ((apS K I (x29.body.take 300)).a) (slc (prt 1 (prt 0 (f 71)))), sB (sla (prt 2 (prt 0 (f 71)))) ((apS K I (x29.body.take 300)).b) (slc (prt 2 (prt 0 (f 71)))), Ix ((apS K I (x29.body.take 300)).power), Nx ((apI I (x29.body.take 300)).epoch), Nx ((apI I (x29.body.take 300)).next), sB ps25 (apI I (x29.body.take 300)).state cs26, sB (sla (prt 7 (prt 0 (f 71)))) (apI I (x29.body.take 300)).recs (slc (prt 7 (prt 0 (f 71)))), Nx ((apI I (x29.body.take 300)).size), .bool false], Nx (I.next), .int .i64 (0)]) rfl rfl) (.refl _)
      ·rintro f M ⟨k0, -⟩ -
       have hs67 : f 67 = .tuple #[.agg #[sB (sla (prt 0 (prt 0 (f 71)))) ((apS K I (x29.body.take 300)).head) (slc (prt 0 (prt 0 (f 71)))), sB (sla (prt 1 (prt 0 (f 71)))) ((apS K I (x29.body.take 300)).a) (slc (prt 1 (prt 0 (f 71)))), sB (sla (prt 2 (prt 0 (f 71)))) ((apS K I (x29.body.take 300)).b) (slc (prt 2 (prt 0 (f 71)))), Ix ((apS K I (x29.body.take 300)).power), Nx ((apI I (x29.body.take 300)).epoch), Nx ((apI I (x29.body.take 300)).next), sB ps25 (apI I (x29.body.take 300)).state cs26, sB (sla (prt 7 (prt 0 (f 71)))) (apI I (x29.body.take 300)).recs (slc (prt 7 (prt 0 (f 71)))), Nx ((apI I (x29.body.take 300)).size), .bool false], Nx (I.next), .int .i64 (0)] := k0
       exact ob0 (up_cons rfl hs67) rfl (e_extract (vs := #[.agg #[sB (sla (prt 0 (prt 0 (f 71)))) ((apS K I (x29.body.take 300)).head) (slc (prt 0 (prt 0 (f 71)))), sB (sla (prt 1 (prt 0 (f 71)))) ((apS K I (x29.body.take 300)).a) (slc (prt 1 (prt 0 (f 71)))), sB (sla (prt 2 (prt 0 (f 71)))) ((apS K I (x29.body.take 300)).b) (slc (prt 2 (prt 0 (f 71)))), Ix ((apS K I (x29.body.take 300)).power), Nx ((apI I (x29.body.take 300)).epoch), Nx ((apI I (x29.body.take 300)).next), sB ps25 (apI I (x29.body.take 300)).state cs26, sB (sla (prt 7 (prt 0 (f 71)))) (apI I (x29.body.take 300)).recs (slc (prt 7 (prt 0 (f 71)))), Nx ((apI I (x29.body.take 300)).size), .bool false], Nx (I.next), .int .i64 (0)]) rfl rfl) (.refl _)
      ·rintro f M - -
       refine ob_start (L' := M) (by rfl) rfl ?_
       refine l_mv rfl rfl rfl (m_alloc tf151) ?_
       rintro _ _ ⟨b64, rfl, rfl⟩
       refine l_nil ?_
       exact f_owes_d rfl rfl (perm_front 0 rfl)
      ·rintro f M ⟨k0, k1, -⟩ -
       have hs12 : f 12 = .pointer (some ⟨(blk (f 12)), 0, none⟩) := k0
       have hs72 : f 72 = .agg #[sB (sla (prt 0 (prt 0 (f 71)))) ((apS K I (x29.body.take 300)).head) (slc (prt 0 (prt 0 (f 71)))), sB (sla (prt 1 (prt 0 (f 71)))) ((apS K I (x29.body.take 300)).a) (slc (prt 1 (prt 0 (f 71)))), sB (sla (prt 2 (prt 0 (f 71)))) ((apS K I (x29.body.take 300)).b) (slc (prt 2 (prt 0 (f 71)))), Ix ((apS K I (x29.body.take 300)).power), Nx ((apI I (x29.body.take 300)).epoch), Nx ((apI I (x29.body.take 300)).next), sB ps25 (apI I (x29.body.take 300)).state cs26, sB (sla (prt 7 (prt 0 (f 71)))) (apI I (x29.body.take 300)).recs (slc (prt 7 (prt 0 (f 71)))), Nx ((apI I (x29.body.take 300)).size), .bool false] := k1
       refine ob_start (L' := pt (blk (f 12)) (.cells #[.slice none 0 0, .slice none 0 0, .slice none 0 0, .int .i64 (0), .int .i64 (0), .int .i64 (0), .slice none 0 0, .slice none 0 0, .int .i64 (0), .bool false] 56) :: M) (by rfl) (up_cons (up_cons rfl hs12) hs72) ?_
       refine lu (m_store 0 tf154 (cs' := #[sB (sla (prt 0 (prt 0 (f 71)))) ((apS K I (x29.body.take 300)).head) (slc (prt 0 (prt 0 (f 71)))), sB (sla (prt 1 (prt 0 (f 71)))) ((apS K I (x29.body.take 300)).a) (slc (prt 1 (prt 0 (f 71)))), sB (sla (prt 2 (prt 0 (f 71)))) ((apS K I (x29.body.take 300)).b) (slc (prt 2 (prt 0 (f 71)))), Ix ((apS K I (x29.body.take 300)).power), Nx ((apI I (x29.body.take 300)).epoch), Nx ((apI I (x29.body.take 300)).next), sB ps25 (apI I (x29.body.take 300)).state cs26, sB (sla (prt 7 (prt 0 (f 71)))) (apI I (x29.body.take 300)).recs (slc (prt 7 (prt 0 (f 71)))), Nx ((apI I (x29.body.take 300)).size), .bool false]) rfl rfl rfl rfl rfl rfl rfl) ?_
       refine l_nil ?_
       exact f_owes_n (up_cons (up_cons rfl hs12) hs72) trivial (perm_front 0 rfl)
      ·rintro f M ⟨k0, -⟩ -
       exact ob0 (up_cons (d := 73) rfl k0) rfl e_assign (.refl _)
      ·rintro f M ⟨k0, -⟩ -
       exact ob0 (up_cons (d := 74) rfl k0) rfl e_assign (.refl _)
      rintro fa65 ⟨-, -, -, -, -, -, -, -, k8, -, k10, k11, -⟩ ⟨j0, j1, j2, j3, j4, j5, j6, j7, j8, j9, -⟩
      refine f_re (L' := [jourR Jn b1 (apI I (x29.body.take 300)) false, storeR b1 (apS K I (x29.body.take 300)), rB p43 (lentX (x29.body.take 300)) c44, pt b42 (.cells #[Bx (x29.kind), Bx (x29.power), sB a37 x29.body (c38)] 47), pt b13 (.cells #[sB pH19 K.head cH22, sB pA20 K.a cA23, sB pB21 K.b cB24, Ix (K.power), Nx (I.epoch), Nx (I.next), sB ps25 I.state cs26, sB pr27 I.recs cr28, Nx (I.size), .bool false] 56), memV pH19 pA20 pB21 ps25 pr27 cH22 cA23 cB24 cs26 cr28 us K I, rB (sla (prt 0 (prt 0 (fa65 71)))) ((apS K I (x29.body.take 300)).head) (slc (prt 0 (prt 0 (fa65 71)))), rB (sla (prt 1 (prt 0 (fa65 71)))) ((apS K I (x29.body.take 300)).a) (slc (prt 1 (prt 0 (fa65 71)))), rB (sla (prt 2 (prt 0 (fa65 71)))) ((apS K I (x29.body.take 300)).b) (slc (prt 2 (prt 0 (fa65 71)))), apR (sla (prt 7 (prt 0 (fa65 71)))) (slc (prt 7 (prt 0 (fa65 71)))) us I.recs.length (x29.body.take 300), pt (blk (fa65 12)) (.cells #[sB (sla (prt 0 (prt 0 (fa65 71)))) ((apS K I (x29.body.take 300)).head) (slc (prt 0 (prt 0 (fa65 71)))), sB (sla (prt 1 (prt 0 (fa65 71)))) ((apS K I (x29.body.take 300)).a) (slc (prt 1 (prt 0 (fa65 71)))), sB (sla (prt 2 (prt 0 (fa65 71)))) ((apS K I (x29.body.take 300)).b) (slc (prt 2 (prt 0 (fa65 71)))), Ix ((apS K I (x29.body.take 300)).power), Nx ((apI I (x29.body.take 300)).epoch), Nx ((apI I (x29.body.take 300)).next), sB ps25 (apI I (x29.body.take 300)).state cs26, sB (sla (prt 7 (prt 0 (fa65 71)))) (apI I (x29.body.take 300)).recs (slc (prt 7 (prt 0 (fa65 71)))), Nx ((apI I (x29.body.take 300)).size), .bool false] 56)]) (by rfl) ?_
      refine f_rebase (d := 3) j0 ?_
      refine f_rebase (d := 4) j1 ?_
      refine f_rebase (d := 5) j2 ?_
      refine f_rebase (d := 8) j3 ?_
      refine f_rebase (d := 9) j4 ?_
      refine f_rebase (d := 10) j5 ?_
      refine f_rebase (d := 11) j6 ?_
      refine f_rebase (d := 12) k8 ?_
      refine f_rebase (d := 13) k10 ?_
      refine f_rebase (d := 14) k11 ?_
      refine f_rebase (d := 36) j7 ?_
      refine f_rebase (d := 37) j8 ?_
      refine f_rebase (d := 38) j9 ?_
      refine ftc ?_
      refine lv (v := .agg #[sB (sla (prt 0 (prt 0 (fa65 71)))) ((apS K I (x29.body.take 300)).head) (slc (prt 0 (prt 0 (fa65 71)))), sB (sla (prt 1 (prt 0 (fa65 71)))) ((apS K I (x29.body.take 300)).a) (slc (prt 1 (prt 0 (fa65 71)))), sB (sla (prt 2 (prt 0 (fa65 71)))) ((apS K I (x29.body.take 300)).b) (slc (prt 2 (prt 0 (fa65 71)))), Ix ((apS K I (x29.body.take 300)).power), Nx ((apI I (x29.body.take 300)).epoch), Nx ((apI I (x29.body.take 300)).next), sB ps25 (apI I (x29.body.take 300)).state cs26, sB (sla (prt 7 (prt 0 (fa65 71)))) (apI I (x29.body.take 300)).recs (slc (prt 7 (prt 0 (fa65 71)))), Nx ((apI I (x29.body.take 300)).size), .bool false]) (e_load tf154 rfl (k_pt 10 rfl rfl) rfl) ?_
      refine lu (m_store 4 tf154 (cs' := #[sB (sla (prt 0 (prt 0 (fa65 71)))) ((apS K I (x29.body.take 300)).head) (slc (prt 0 (prt 0 (fa65 71)))), sB (sla (prt 1 (prt 0 (fa65 71)))) ((apS K I (x29.body.take 300)).a) (slc (prt 1 (prt 0 (fa65 71)))), sB (sla (prt 2 (prt 0 (fa65 71)))) ((apS K I (x29.body.take 300)).b) (slc (prt 2 (prt 0 (fa65 71)))), Ix ((apS K I (x29.body.take 300)).power), Nx ((apI I (x29.body.take 300)).epoch), Nx ((apI I (x29.body.take 300)).next), sB ps25 (apI I (x29.body.take 300)).state cs26, sB (sla (prt 7 (prt 0 (fa65 71)))) (apI I (x29.body.take 300)).recs (slc (prt 7 (prt 0 (fa65 71)))), Nx ((apI I (x29.body.take 300)).size), .bool false]) rfl rfl rfl rfl rfl rfl rfl) ?_
      refine lnc ?_
      refine lv e_move ?_
      refine lv e_move ?_
      refine lv (e_neq (a := ((I.next : Nat) : Int)) (b := ((I.next : Nat) : Int)) rfl rfl) ?_
      refine lv e_move ?_
      refine l_split (s := 79) (p := ((I.next : Nat) : Int) ≠ ((I.next : Nat) : Int)) rfl (fun h => ?_) (fun h => ?_)
      exact absurd h (by omega)
      refine g_val (v := .int .i64 (0)) rfl rfl rfl rfl rfl e_move ?_
      refine g_val (v := .int .i64 (0)) rfl rfl rfl rfl rfl e_move ?_
      refine g_val (v := .bool false) rfl rfl rfl rfl rfl (e_neq (a := (0 : Int)) (b := (0 : Int)) rfl rfl) ?_
      refine lv (v := .bool false) (e_pick_f rfl) ?_
      refine lnf ?_
      refine c_no rfl ?_
      refine c_skip ?_
      refine f_block ?_
      refine f_pi [6, 7, 8, 9, 5, 0, 1, 2, 3, 4, 10] 11 rfl (by kernel_rfl) ?_
      refine f_seal (K := [rB (sla (prt 0 (prt 0 (fa65 71)))) ((apS K I (x29.body.take 300)).head) (slc (prt 0 (prt 0 (fa65 71)))), rB (sla (prt 1 (prt 0 (fa65 71)))) ((apS K I (x29.body.take 300)).a) (slc (prt 1 (prt 0 (fa65 71)))), rB (sla (prt 2 (prt 0 (fa65 71)))) ((apS K I (x29.body.take 300)).b) (slc (prt 2 (prt 0 (fa65 71)))), apR (sla (prt 7 (prt 0 (fa65 71)))) (slc (prt 7 (prt 0 (fa65 71)))) us I.recs.length (x29.body.take 300), memV pH19 pA20 pB21 ps25 pr27 cH22 cA23 cB24 cs26 cr28 us K I]) (F := memR (sB (sla (prt 0 (prt 0 (fa65 71)))) (apS K I (x29.body.take 300)).head (slc (prt 0 (prt 0 (fa65 71))))) (sB (sla (prt 1 (prt 0 (fa65 71)))) (apS K I (x29.body.take 300)).a (slc (prt 1 (prt 0 (fa65 71))))) (sB (sla (prt 2 (prt 0 (fa65 71)))) (apS K I (x29.body.take 300)).b (slc (prt 2 (prt 0 (fa65 71))))) (sB ps25 (apI I (x29.body.take 300)).state cs26) (sB (sla (prt 7 (prt 0 (fa65 71)))) (apI I (x29.body.take 300)).recs (slc (prt 7 (prt 0 (fa65 71))))) (apS K I (x29.body.take 300)) (apI I (x29.body.take 300))) rfl (fun _ h => mem_ap h) ?_
      refine f_pi [5, 0, 1, 2, 3, 4, 6] 7 rfl (by kernel_rfl) ?_
      refine f_seal (K := [pt b13 (.cells #[sB (sla (prt 0 (prt 0 (fa65 71)))) ((apS K I (x29.body.take 300)).head) (slc (prt 0 (prt 0 (fa65 71)))), sB (sla (prt 1 (prt 0 (fa65 71)))) ((apS K I (x29.body.take 300)).a) (slc (prt 1 (prt 0 (fa65 71)))), sB (sla (prt 2 (prt 0 (fa65 71)))) ((apS K I (x29.body.take 300)).b) (slc (prt 2 (prt 0 (fa65 71)))), Ix ((apS K I (x29.body.take 300)).power), Nx ((apI I (x29.body.take 300)).epoch), Nx ((apI I (x29.body.take 300)).next), sB ps25 (apI I (x29.body.take 300)).state cs26, sB (sla (prt 7 (prt 0 (fa65 71)))) (apI I (x29.body.take 300)).recs (slc (prt 7 (prt 0 (fa65 71)))), Nx ((apI I (x29.body.take 300)).size), .bool false] 56), memR (sB (sla (prt 0 (prt 0 (fa65 71)))) (apS K I (x29.body.take 300)).head (slc (prt 0 (prt 0 (fa65 71))))) (sB (sla (prt 1 (prt 0 (fa65 71)))) (apS K I (x29.body.take 300)).a (slc (prt 1 (prt 0 (fa65 71))))) (sB (sla (prt 2 (prt 0 (fa65 71)))) (apS K I (x29.body.take 300)).b (slc (prt 2 (prt 0 (fa65 71))))) (sB ps25 (apI I (x29.body.take 300)).state cs26) (sB (sla (prt 7 (prt 0 (fa65 71)))) (apI I (x29.body.take 300)).recs (slc (prt 7 (prt 0 (fa65 71))))) (apS K I (x29.body.take 300)) (apI I (x29.body.take 300))]) (F := rjE b13 (apS K I (x29.body.take 300)) (apI I (x29.body.take 300)) false) rfl (fun _ h => ⟨_, _, _, _, _, _, _, _, _, _, h⟩) ?_
      refine f_pi [1, 2, 0, 3, 4, 5] 6 rfl (by kernel_rfl) ?_
      refine f_mask [true, true, true, true, true, false] rfl ?_
      exact f_cut ⟨1, (apS K I (x29.body.take 300)), (apI I (x29.body.take 300)), Jn, ⟨rfl, rfl, rfl, rfl, rfl, rfl, rfl, rfl⟩, rfl, by omega, (hI2.sm (by omega)), fun _ => hI2, ⟨_, hI2.any⟩, fun h => by omega⟩
     have hI2 := hI.ap_no (by simp; omega) hc
     refine c_region ?_
     refine lv e_move ?_
     refine lv e_move ?_
     refine l_call rfl rfl rfl (cl0 (vs := [pp Jn 0, sB p43 ((x29.body.take 300)) c44]) tf102 rfl rfl) ?_
     intro w hw
     replace hw := hw.perm (L' := _ :: _ :: _ :: _ :: _ :: _ :: []) (by exact ((((((perm_front 3 rfl).trans (perm_front 3 rfl)).trans (perm_front 3 rfl)).trans (perm_front 3 rfl)).trans (perm_front 5 rfl)).trans (perm_front 5 rfl)))
     obtain ⟨β1, sb, kn, hw1, back⟩ := St.frame (L := [_, _]) (M := _ :: _ :: _ :: _ :: []) hw
     refine (append_fail β1 w Jn b1 K I (x29.body.take 300) (by simp; omega) hfit (by omega) (by omega) (by omega) (by simp; omega) (by omega) hc _ (kn _ (Knows.of_res 0 rfl (Sl.mono U8R _ _) fun _ h => lent_sl h)) hw1).mono ?_
     rintro e w' ⟨rfl, hw'⟩
     refine ⟨_, rfl, _, back _ _ hw', ?_⟩
     clear hw hw1 hw' back kn sb
     refine lv e_move ?_
     refine lv (v := .int .i64 (0)) (e_extract (vs := #[.int .i64 (0), .int .i64 (310)]) rfl rfl) ?_
     refine lv (v := .int .i64 (310)) (e_extract (vs := #[.int .i64 (0), .int .i64 (310)]) rfl rfl) ?_
     refine lv e_assign ?_
     refine lv e_assign ?_
     refine lnf ?_
     refine c_seq ?_
     refine c_any [⟨[], [], [0], [68], fun f => f 68 = .agg #[sB pH19 K.head cH22, sB pA20 K.a cA23, sB pB21 K.b cB24, Ix (K.power), Nx (I.epoch), Nx (I.next), sB ps25 I.state cs26, sB pr27 I.recs cr28, Nx (I.size), .bool false]⟩, ⟨[], [], [1], [69], fun f => f 69 = .agg #[Bx (x29.kind), Bx (x29.power), sB a37 x29.body (c38)]⟩, ⟨[1], [1], [], [70], fun f => f 70 = sB a37 (x29.body.take 300) (c38)⟩, ⟨[0, 1, 2], [0, 2], [], [71], fun f => f 71 = .tuple #[.agg #[sB (sla (prt 0 (prt 0 (f 71)))) ((apS K I (x29.body.take 300)).head) (slc (prt 0 (prt 0 (f 71)))), sB (sla (prt 1 (prt 0 (f 71)))) ((apS K I (x29.body.take 300)).a) (slc (prt 1 (prt 0 (f 71)))), sB (sla (prt 2 (prt 0 (f 71)))) ((apS K I (x29.body.take 300)).b) (slc (prt 2 (prt 0 (f 71)))), Ix ((apS K I (x29.body.take 300)).power), Nx (I.epoch), Nx (I.next), sB ps25 I.state cs26, sB pr27 I.recs cr28, Nx (I.size), .bool true], .int .i64 (0), .int .i64 (310)]⟩, ⟨[0, 1, 2, 3], [3], [], [67, 71], fun f => f 67 = .tuple #[.agg #[sB (sla (prt 0 (prt 0 (f 71)))) ((apS K I (x29.body.take 300)).head) (slc (prt 0 (prt 0 (f 71)))), sB (sla (prt 1 (prt 0 (f 71)))) ((apS K I (x29.body.take 300)).a) (slc (prt 1 (prt 0 (f 71)))), sB (sla (prt 2 (prt 0 (f 71)))) ((apS K I (x29.body.take 300)).b) (slc (prt 2 (prt 0 (f 71)))), Ix ((apS K I (x29.body.take 300)).power), Nx (I.epoch), Nx (I.next), sB ps25 I.state cs26, sB pr27 I.recs cr28, Nx (I.size), .bool true], .int .i64 (0), .int .i64 (310)]⟩, ⟨[0, 1, 2, 3, 4], [4], [], [71, 72], fun f => f 72 = .agg #[sB (sla (prt 0 (prt 0 (f 71)))) ((apS K I (x29.body.take 300)).head) (slc (prt 0 (prt 0 (f 71)))), sB (sla (prt 1 (prt 0 (f 71)))) ((apS K I (x29.body.take 300)).a) (slc (prt 1 (prt 0 (f 71)))), sB (sla (prt 2 (prt 0 (f 71)))) ((apS K I (x29.body.take 300)).b) (slc (prt 2 (prt 0 (f 71)))), Ix ((apS K I (x29.body.take 300)).power), Nx (I.epoch), Nx (I.next), sB ps25 I.state cs26, sB pr27 I.recs cr28, Nx (I.size), .bool true]⟩, ⟨[0, 1, 2, 3, 4], [4], [], [73], fun f => f 73 = .int .i64 (0)⟩, ⟨[0, 1, 2, 3, 4], [4], [], [74], fun f => f 74 = .int .i64 (310)⟩, ⟨[], [], [], [12], fun f => f 12 = .pointer (some ⟨(blk (f 12)), 0, none⟩)⟩, ⟨[0, 1, 2, 3, 4, 5, 8], [8, 5], [], [], fun _ => True⟩, ⟨[0, 1, 2, 3, 4, 5, 6, 8, 9], [6], [], [13], fun f => f 13 = .int .i64 (0)⟩, ⟨(List.range 11), [7], [], [14], fun f => f 14 = .int .i64 (310)⟩] [⟨none, none, [], [], fun _ => jourR Jn b1 I true⟩, ⟨none, none, [], [], fun _ => storeR b1 (apS K I (x29.body.take 300))⟩, ⟨none, none, [], [], fun _ => rB p43 (lentX (x29.body.take 300)) c44⟩, ⟨none, none, [1], [], fun _ => pt b42 (.cells #[Bx (x29.kind), Bx (x29.power), sB a37 x29.body (c38)] 47)⟩, ⟨none, none, [0], [], fun _ => pt b13 (.cells #[sB pH19 K.head cH22, sB pA20 K.a cA23, sB pB21 K.b cB24, Ix (K.power), Nx (I.epoch), Nx (I.next), sB ps25 I.state cs26, sB pr27 I.recs cr28, Nx (I.size), .bool false] 56)⟩, ⟨none, none, [3], [], fun _ => memV pH19 pA20 pB21 ps25 pr27 cH22 cA23 cB24 cs26 cr28 us K I⟩, ⟨(some 3), none, [], [71], fun f => rB (sla (prt 0 (prt 0 (f 71)))) ((apS K I (x29.body.take 300)).head) (slc (prt 0 (prt 0 (f 71))))⟩, ⟨(some 3), none, [], [71], fun f => rB (sla (prt 1 (prt 0 (f 71)))) ((apS K I (x29.body.take 300)).a) (slc (prt 1 (prt 0 (f 71))))⟩, ⟨(some 3), none, [], [71], fun f => rB (sla (prt 2 (prt 0 (f 71)))) ((apS K I (x29.body.take 300)).b) (slc (prt 2 (prt 0 (f 71))))⟩, ⟨(some 8), (some 9), [9], [12], fun f => pt (blk (f 12)) (.cells #[.slice none 0 0, .slice none 0 0, .slice none 0 0, .int .i64 (0), .int .i64 (0), .int .i64 (0), .slice none 0 0, .slice none 0 0, .int .i64 (0), .bool false] 56)⟩, ⟨(some 9), none, [], [12, 71], fun f => pt (blk (f 12)) (.cells #[sB (sla (prt 0 (prt 0 (f 71)))) ((apS K I (x29.body.take 300)).head) (slc (prt 0 (prt 0 (f 71)))), sB (sla (prt 1 (prt 0 (f 71)))) ((apS K I (x29.body.take 300)).a) (slc (prt 1 (prt 0 (f 71)))), sB (sla (prt 2 (prt 0 (f 71)))) ((apS K I (x29.body.take 300)).b) (slc (prt 2 (prt 0 (f 71)))), Ix ((apS K I (x29.body.take 300)).power), Nx (I.epoch), Nx (I.next), sB ps25 I.state cs26, sB pr27 I.recs cr28, Nx (I.size), .bool true] 56)⟩] [(5, pp b13 0), (8, pp b42 0), (3, pp b1 0), (4, pp Jn 0), (9, sB p43 ((x29.body.take 300)) c44), (10, .int .i64 (0)), (11, .int .i64 (310)), (36, sB va zs14 (vc)), (37, Nx (zs14.length)), (38, Nx (k))] [2, 3, 0, 1, 4, 5, 6, 7, 8, 9] [] (by kernel_rfl) (by kernel_rfl) (by kernel_rfl) (by kernel_rfl) rfl ⟨rfl, rfl, rfl, rfl, rfl, rfl, rfl, rfl, rfl, rfl, trivial⟩ ⟨?_, ?_, ?_, ?_, ?_, ?_, ?_, ?_, ?_, ?_, ?_, ?_, trivial⟩ ?_
     ·rintro f M - ⟨i0, -⟩
      exact obv (L' := pt b13 (.cells #[sB pH19 K.head cH22, sB pA20 K.a cA23, sB pB21 K.b cB24, Ix (K.power), Nx (I.epoch), Nx (I.next), sB ps25 I.state cs26, sB pr27 I.recs cr28, Nx (I.size), .bool false] 56) :: M) (up_cons (d := 5) rfl i0) rfl (e_load tf154 rfl (k_pt 0 rfl rfl) rfl) (perm_front 0 rfl) (by rfl)
     ·rintro f M - ⟨i0, -⟩
      exact obv (L' := pt b42 (.cells #[Bx (x29.kind), Bx (x29.power), sB a37 x29.body (c38)] 47) :: M) (up_cons (d := 8) rfl i0) rfl (e_load tf87 rfl (k_pt 0 rfl rfl) rfl) (perm_front 0 rfl) (by rfl)
     ·rintro f M ⟨k0, -⟩ -
      refine ob_start (L' := M) (by rfl) (up_cons (d := 69) rfl k0) ?_
      refine lcf (cl0 (vs := [.agg #[Bx (x29.kind), Bx (x29.power), sB a37 x29.body (c38)]]) tf100 rfl rfl) rfl fun w β1 sb kn hw1 back => (body_ok β1 w hw1 x29 a37 c38 (by omega) (by omega) (Elems.mono _ _ _ _ _ sb he41)).mono ?_
      rintro e w' ⟨rfl, hw'⟩
      refine ⟨_, rfl, _, back _ _ hw', ?_⟩
      clear hw1 hw' back kn sb
      refine l_nil ?_
      exact f_owes_d (up_cons (d := 69) rfl k0) rfl (List.Perm.refl _)
     ·rintro f M ⟨k0, k1, -⟩ -
      refine ob_start (L' := memV pH19 pA20 pB21 ps25 pr27 cH22 cA23 cB24 cs26 cr28 us K I :: M) (by rfl) (up_cons (d := 70) (up_cons (d := 68) rfl k0) k1) ?_
      refine lcf (cl0 (vs := [.agg #[sB pH19 K.head cH22, sB pA20 K.a cA23, sB pB21 K.b cB24, Ix (K.power), Nx (I.epoch), Nx (I.next), sB ps25 I.state cs26, sB pr27 I.recs cr28, Nx (I.size), .bool false], sB a37 (x29.body.take 300) (c38)]) tf169 rfl rfl) rfl fun w β1 sb kn hw1 back => (rapp_fail2 β1 w hw1 K _ _ _ (kn _ (Knows.of_res 0 rfl (Sl.mono U8R _ _) fun _ h => h.1)) (kn _ (Knows.of_res 0 rfl (Sl.mono U8R _ _) fun _ h => h.2.1)) (kn _ (Knows.of_res 0 rfl (Sl.mono U8R _ _) fun _ h => h.2.2.1)) I ps25 pr27 cs26 cr28 us hul (kn (fun h => Cs h (ba pr27) us) (Knows.of_res 0 rfl (Cs.mono _ _) fun _ h => h.2.2.2.2.1)) hu1 hpr (x29.body.take 300) _ (Sl.mono _ _ _ _ _ sb (⟨⟨_, _, rfl, by simp only [List.length_take]; omega, by omega, Elems.take 300 he41⟩⟩ : Sl U8R _ _ (x29.body.take 300))) hfit ⟨by omega, by omega, by omega, by omega⟩ (by simp; omega) (by have := area_both (P := fun z => z.length ≤ 324 * (k + 2)) hla hlb I.epoch; simp only [List.length_take]; omega) (by omega) hc).mono ?_
      rintro e w' ⟨pH72, pA73, pB74, cH75, cA76, cB77, rfl, hw'⟩
      refine ⟨_, rfl, _, back _ _ hw', ?_⟩
      clear hw1 hw' back kn sb
      refine l_nil ?_
      exact f_owes_d (up_cons (d := 70) (up_cons (d := 68) rfl k0) k1) rfl ((((perm_front 2 rfl).trans (perm_front 2 rfl)).trans (perm_front 2 rfl)).trans (perm_front 3 rfl))
     ·rintro f M ⟨k0, -⟩ -
      have hs71 : f 71 = .tuple #[.agg #[sB (sla (prt 0 (prt 0 (f 71)))) ((apS K I (x29.body.take 300)).head) (slc (prt 0 (prt 0 (f 71)))), sB (sla (prt 1 (prt 0 (f 71)))) ((apS K I (x29.body.take 300)).a) (slc (prt 1 (prt 0 (f 71)))), sB (sla (prt 2 (prt 0 (f 71)))) ((apS K I (x29.body.take 300)).b) (slc (prt 2 (prt 0 (f 71)))), Ix ((apS K I (x29.body.take 300)).power), Nx (I.epoch), Nx (I.next), sB ps25 I.state cs26, sB pr27 I.recs cr28, Nx (I.size), .bool true], .int .i64 (0), .int .i64 (310)] := k0
      exact ob0 (up_cons rfl hs71) rfl e_move (.refl _)
     ·rintro f M ⟨k0, -⟩ -
      have hs67 : f 67 = .tuple #[.agg #[sB (sla (prt 0 (prt 0 (f 71)))) ((apS K I (x29.body.take 300)).head) (slc (prt 0 (prt 0 (f 71)))), sB (sla (prt 1 (prt 0 (f 71)))) ((apS K I (x29.body.take 300)).a) (slc (prt 1 (prt 0 (f 71)))), sB (sla (prt 2 (prt 0 (f 71)))) ((apS K I (x29.body.take 300)).b) (slc (prt 2 (prt 0 (f 71)))), Ix ((apS K I (x29.body.take 300)).power), Nx (I.epoch), Nx (I.next), sB ps25 I.state cs26, sB pr27 I.recs cr28, Nx (I.size), .bool true], .int .i64 (0), .int .i64 (310)] := k0
      exact ob0 (up_cons rfl hs67) rfl (e_extract (vs := #[.agg #[sB (sla (prt 0 (prt 0 (f 71)))) ((apS K I (x29.body.take 300)).head) (slc (prt 0 (prt 0 (f 71)))), sB (sla (prt 1 (prt 0 (f 71)))) ((apS K I (x29.body.take 300)).a) (slc (prt 1 (prt 0 (f 71)))), sB (sla (prt 2 (prt 0 (f 71)))) ((apS K I (x29.body.take 300)).b) (slc (prt 2 (prt 0 (f 71)))), Ix ((apS K I (x29.body.take 300)).power), Nx (I.epoch), Nx (I.next), sB ps25 I.state cs26, sB pr27 I.recs cr28, Nx (I.size), .bool true], .int .i64 (0), .int .i64 (310)]) rfl rfl) (.refl _)
     ·rintro f M ⟨k0, -⟩ -
      have hs67 : f 67 = .tuple #[.agg #[sB (sla (prt 0 (prt 0 (f 71)))) ((apS K I (x29.body.take 300)).head) (slc (prt 0 (prt 0 (f 71)))), sB (sla (prt 1 (prt 0 (f 71)))) ((apS K I (x29.body.take 300)).a) (slc (prt 1 (prt 0 (f 71)))), sB (sla (prt 2 (prt 0 (f 71)))) ((apS K I (x29.body.take 300)).b) (slc (prt 2 (prt 0 (f 71)))), Ix ((apS K I (x29.body.take 300)).power), Nx (I.epoch), Nx (I.next), sB ps25 I.state cs26, sB pr27 I.recs cr28, Nx (I.size), .bool true], .int .i64 (0), .int .i64 (310)] := k0
      exact ob0 (up_cons rfl hs67) rfl (e_extract (vs := #[.agg #[sB (sla (prt 0 (prt 0 (f 71)))) ((apS K I (x29.body.take 300)).head) (slc (prt 0 (prt 0 (f 71)))), sB (sla (prt 1 (prt 0 (f 71)))) ((apS K I (x29.body.take 300)).a) (slc (prt 1 (prt 0 (f 71)))), sB (sla (prt 2 (prt 0 (f 71)))) ((apS K I (x29.body.take 300)).b) (slc (prt 2 (prt 0 (f 71)))), Ix ((apS K I (x29.body.take 300)).power), Nx (I.epoch), Nx (I.next), sB ps25 I.state cs26, sB pr27 I.recs cr28, Nx (I.size), .bool true], .int .i64 (0), .int .i64 (310)]) rfl rfl) (.refl _)
     ·rintro f M ⟨k0, -⟩ -
      have hs67 : f 67 = .tuple #[.agg #[sB (sla (prt 0 (prt 0 (f 71)))) ((apS K I (x29.body.take 300)).head) (slc (prt 0 (prt 0 (f 71)))), sB (sla (prt 1 (prt 0 (f 71)))) ((apS K I (x29.body.take 300)).a) (slc (prt 1 (prt 0 (f 71)))), sB (sla (prt 2 (prt 0 (f 71)))) ((apS K I (x29.body.take 300)).b) (slc (prt 2 (prt 0 (f 71)))), Ix ((apS K I (x29.body.take 300)).power), Nx (I.epoch), Nx (I.next), sB ps25 I.state cs26, sB pr27 I.recs cr28, Nx (I.size), .bool true], .int .i64 (0), .int .i64 (310)] := k0
      exact ob0 (up_cons rfl hs67) rfl (e_extract (vs := #[.agg #[sB (sla (prt 0 (prt 0 (f 71)))) ((apS K I (x29.body.take 300)).head) (slc (prt 0 (prt 0 (f 71)))), sB (sla (prt 1 (prt 0 (f 71)))) ((apS K I (x29.body.take 300)).a) (slc (prt 1 (prt 0 (f 71)))), sB (sla (prt 2 (prt 0 (f 71)))) ((apS K I (x29.body.take 300)).b) (slc (prt 2 (prt 0 (f 71)))), Ix ((apS K I (x29.body.take 300)).power), Nx (I.epoch), Nx (I.next), sB ps25 I.state cs26, sB pr27 I.recs cr28, Nx (I.size), .bool true], .int .i64 (0), .int .i64 (310)]) rfl rfl) (.refl _)
     ·rintro f M - -
      refine ob_start (L' := M) (by rfl) rfl ?_
      refine l_mv rfl rfl rfl (m_alloc tf151) ?_
      rintro _ _ ⟨b79, rfl, rfl⟩
      refine l_nil ?_
      exact f_owes_d rfl rfl (perm_front 0 rfl)
     ·rintro f M ⟨k0, k1, -⟩ -
      have hs12 : f 12 = .pointer (some ⟨(blk (f 12)), 0, none⟩) := k0
      have hs72 : f 72 = .agg #[sB (sla (prt 0 (prt 0 (f 71)))) ((apS K I (x29.body.take 300)).head) (slc (prt 0 (prt 0 (f 71)))), sB (sla (prt 1 (prt 0 (f 71)))) ((apS K I (x29.body.take 300)).a) (slc (prt 1 (prt 0 (f 71)))), sB (sla (prt 2 (prt 0 (f 71)))) ((apS K I (x29.body.take 300)).b) (slc (prt 2 (prt 0 (f 71)))), Ix ((apS K I (x29.body.take 300)).power), Nx (I.epoch), Nx (I.next), sB ps25 I.state cs26, sB pr27 I.recs cr28, Nx (I.size), .bool true] := k1
      refine ob_start (L' := pt (blk (f 12)) (.cells #[.slice none 0 0, .slice none 0 0, .slice none 0 0, .int .i64 (0), .int .i64 (0), .int .i64 (0), .slice none 0 0, .slice none 0 0, .int .i64 (0), .bool false] 56) :: M) (by rfl) (up_cons (up_cons rfl hs12) hs72) ?_
      refine lu (m_store 0 tf154 (cs' := #[sB (sla (prt 0 (prt 0 (f 71)))) ((apS K I (x29.body.take 300)).head) (slc (prt 0 (prt 0 (f 71)))), sB (sla (prt 1 (prt 0 (f 71)))) ((apS K I (x29.body.take 300)).a) (slc (prt 1 (prt 0 (f 71)))), sB (sla (prt 2 (prt 0 (f 71)))) ((apS K I (x29.body.take 300)).b) (slc (prt 2 (prt 0 (f 71)))), Ix ((apS K I (x29.body.take 300)).power), Nx (I.epoch), Nx (I.next), sB ps25 I.state cs26, sB pr27 I.recs cr28, Nx (I.size), .bool true]) rfl rfl rfl rfl rfl rfl rfl) ?_
      refine l_nil ?_
      exact f_owes_n (up_cons (up_cons rfl hs12) hs72) trivial (perm_front 0 rfl)
     ·rintro f M ⟨k0, -⟩ -
      exact ob0 (up_cons (d := 73) rfl k0) rfl e_assign (.refl _)
     ·rintro f M ⟨k0, -⟩ -
      exact ob0 (up_cons (d := 74) rfl k0) rfl e_assign (.refl _)
     rintro fa80 ⟨-, -, -, -, -, -, -, -, k8, -, k10, k11, -⟩ ⟨j0, j1, j2, j3, j4, j5, j6, j7, j8, j9, -⟩
     refine f_re (L' := [jourR Jn b1 I true, storeR b1 (apS K I (x29.body.take 300)), rB p43 (lentX (x29.body.take 300)) c44, pt b42 (.cells #[Bx (x29.kind), Bx (x29.power), sB a37 x29.body (c38)] 47), pt b13 (.cells #[sB pH19 K.head cH22, sB pA20 K.a cA23, sB pB21 K.b cB24, Ix (K.power), Nx (I.epoch), Nx (I.next), sB ps25 I.state cs26, sB pr27 I.recs cr28, Nx (I.size), .bool false] 56), memV pH19 pA20 pB21 ps25 pr27 cH22 cA23 cB24 cs26 cr28 us K I, rB (sla (prt 0 (prt 0 (fa80 71)))) ((apS K I (x29.body.take 300)).head) (slc (prt 0 (prt 0 (fa80 71)))), rB (sla (prt 1 (prt 0 (fa80 71)))) ((apS K I (x29.body.take 300)).a) (slc (prt 1 (prt 0 (fa80 71)))), rB (sla (prt 2 (prt 0 (fa80 71)))) ((apS K I (x29.body.take 300)).b) (slc (prt 2 (prt 0 (fa80 71)))), pt (blk (fa80 12)) (.cells #[sB (sla (prt 0 (prt 0 (fa80 71)))) ((apS K I (x29.body.take 300)).head) (slc (prt 0 (prt 0 (fa80 71)))), sB (sla (prt 1 (prt 0 (fa80 71)))) ((apS K I (x29.body.take 300)).a) (slc (prt 1 (prt 0 (fa80 71)))), sB (sla (prt 2 (prt 0 (fa80 71)))) ((apS K I (x29.body.take 300)).b) (slc (prt 2 (prt 0 (fa80 71)))), Ix ((apS K I (x29.body.take 300)).power), Nx (I.epoch), Nx (I.next), sB ps25 I.state cs26, sB pr27 I.recs cr28, Nx (I.size), .bool true] 56)]) (by rfl) ?_
     refine f_rebase (d := 3) j0 ?_
     refine f_rebase (d := 4) j1 ?_
     refine f_rebase (d := 5) j2 ?_
     refine f_rebase (d := 8) j3 ?_
     refine f_rebase (d := 9) j4 ?_
     refine f_rebase (d := 10) j5 ?_
     refine f_rebase (d := 11) j6 ?_
     refine f_rebase (d := 12) k8 ?_
     refine f_rebase (d := 13) k10 ?_
     refine f_rebase (d := 14) k11 ?_
     refine f_rebase (d := 36) j7 ?_
     refine f_rebase (d := 37) j8 ?_
     refine f_rebase (d := 38) j9 ?_
     refine ftc ?_
     refine lv (v := .agg #[sB (sla (prt 0 (prt 0 (fa80 71)))) ((apS K I (x29.body.take 300)).head) (slc (prt 0 (prt 0 (fa80 71)))), sB (sla (prt 1 (prt 0 (fa80 71)))) ((apS K I (x29.body.take 300)).a) (slc (prt 1 (prt 0 (fa80 71)))), sB (sla (prt 2 (prt 0 (fa80 71)))) ((apS K I (x29.body.take 300)).b) (slc (prt 2 (prt 0 (fa80 71)))), Ix ((apS K I (x29.body.take 300)).power), Nx (I.epoch), Nx (I.next), sB ps25 I.state cs26, sB pr27 I.recs cr28, Nx (I.size), .bool true]) (e_load tf154 rfl (k_pt 9 rfl rfl) rfl) ?_
     refine lu (m_store 4 tf154 (cs' := #[sB (sla (prt 0 (prt 0 (fa80 71)))) ((apS K I (x29.body.take 300)).head) (slc (prt 0 (prt 0 (fa80 71)))), sB (sla (prt 1 (prt 0 (fa80 71)))) ((apS K I (x29.body.take 300)).a) (slc (prt 1 (prt 0 (fa80 71)))), sB (sla (prt 2 (prt 0 (fa80 71)))) ((apS K I (x29.body.take 300)).b) (slc (prt 2 (prt 0 (fa80 71)))), Ix ((apS K I (x29.body.take 300)).power), Nx (I.epoch), Nx (I.next), sB ps25 I.state cs26, sB pr27 I.recs cr28, Nx (I.size), .bool true]) rfl rfl rfl rfl rfl rfl rfl) ?_
     refine lnc ?_
     refine lv e_move ?_
     refine lv e_move ?_
     refine lv (v := .bool false) (e_neq (a := (0 : Int)) (b := (0 : Int)) rfl rfl) ?_
     refine lv e_move ?_
     refine g_val (v := .int .i64 (310)) rfl rfl rfl rfl rfl e_move ?_
     refine g_val (v := .int .i64 (310)) rfl rfl rfl rfl rfl e_move ?_
     refine g_val (v := .bool false) rfl rfl rfl rfl rfl (e_neq (a := (310 : Int)) (b := (310 : Int)) rfl rfl) ?_
     refine lv (v := .bool false) (e_pick_f rfl) ?_
     refine lnf ?_
     refine c_no rfl ?_
     refine c_skip ?_
     refine f_block ?_
     refine f_pi [6, 7, 8, 5, 0, 1, 2, 3, 4, 9] 10 rfl (by kernel_rfl) ?_
     refine f_seal (K := [rB (sla (prt 0 (prt 0 (fa80 71)))) ((apS K I (x29.body.take 300)).head) (slc (prt 0 (prt 0 (fa80 71)))), rB (sla (prt 1 (prt 0 (fa80 71)))) ((apS K I (x29.body.take 300)).a) (slc (prt 1 (prt 0 (fa80 71)))), rB (sla (prt 2 (prt 0 (fa80 71)))) ((apS K I (x29.body.take 300)).b) (slc (prt 2 (prt 0 (fa80 71)))), memV pH19 pA20 pB21 ps25 pr27 cH22 cA23 cB24 cs26 cr28 us K I]) (F := memR (sB (sla (prt 0 (prt 0 (fa80 71)))) (apS K I (x29.body.take 300)).head (slc (prt 0 (prt 0 (fa80 71))))) (sB (sla (prt 1 (prt 0 (fa80 71)))) (apS K I (x29.body.take 300)).a (slc (prt 1 (prt 0 (fa80 71))))) (sB (sla (prt 2 (prt 0 (fa80 71)))) (apS K I (x29.body.take 300)).b (slc (prt 2 (prt 0 (fa80 71))))) (sB ps25 I.state cs26) (sB pr27 I.recs cr28) (apS K I (x29.body.take 300)) I) rfl (fun _ h => mem_fail h) ?_
     refine f_pi [5, 0, 1, 2, 3, 4, 6] 7 rfl (by kernel_rfl) ?_
     refine f_seal (K := [pt b13 (.cells #[sB (sla (prt 0 (prt 0 (fa80 71)))) ((apS K I (x29.body.take 300)).head) (slc (prt 0 (prt 0 (fa80 71)))), sB (sla (prt 1 (prt 0 (fa80 71)))) ((apS K I (x29.body.take 300)).a) (slc (prt 1 (prt 0 (fa80 71)))), sB (sla (prt 2 (prt 0 (fa80 71)))) ((apS K I (x29.body.take 300)).b) (slc (prt 2 (prt 0 (fa80 71)))), Ix ((apS K I (x29.body.take 300)).power), Nx (I.epoch), Nx (I.next), sB ps25 I.state cs26, sB pr27 I.recs cr28, Nx (I.size), .bool true] 56), memR (sB (sla (prt 0 (prt 0 (fa80 71)))) (apS K I (x29.body.take 300)).head (slc (prt 0 (prt 0 (fa80 71))))) (sB (sla (prt 1 (prt 0 (fa80 71)))) (apS K I (x29.body.take 300)).a (slc (prt 1 (prt 0 (fa80 71))))) (sB (sla (prt 2 (prt 0 (fa80 71)))) (apS K I (x29.body.take 300)).b (slc (prt 2 (prt 0 (fa80 71))))) (sB ps25 I.state cs26) (sB pr27 I.recs cr28) (apS K I (x29.body.take 300)) I]) (F := rjE b13 (apS K I (x29.body.take 300)) I true) rfl (fun _ h => ⟨_, _, _, _, _, _, _, _, _, _, h⟩) ?_
     refine f_pi [1, 2, 0, 3, 4, 5] 6 rfl (by kernel_rfl) ?_
     refine f_mask [true, true, true, true, true, false] rfl ?_
     exact f_cut ⟨2, (apS K I (x29.body.take 300)), I, Jn, ⟨rfl, rfl, rfl, rfl, rfl, rfl, rfl, rfl⟩, rfl, by omega, hS, fun h => by omega, ⟨_, hI2.any⟩, fun h => by omega⟩
    refine rebase (d := 4) (v := pp Jn 0) rfl ?_
    refine c_re (L' := [rB p43 (lentX (x29.body.take 300)) c44, pt b42 (.cells #[Bx (x29.kind), Bx (x29.power), sB a37 x29.body (c38)] 47), pt b13 (.cells #[sB pH19 K.head cH22, sB pA20 K.a cA23, sB pB21 K.b cB24, Ix (K.power), Nx (I.epoch), Nx (I.next), sB ps25 I.state cs26, sB pr27 I.recs cr28, Nx (I.size), .bool true] 56), memV pH19 pA20 pB21 ps25 pr27 cH22 cA23 cB24 cs26 cr28 us K I, jourR Jn b1 I true, storeR b1 K]) (by rfl) ?_
    refine c_region ?_
    refine lv e_move ?_
    refine lv (v := .bool false) (e_eql_pnil (p := some (⟨Jn, 0, none⟩)) rfl rfl tf36) ?_
    refine lnf ?_
    refine c_no rfl ?_
    refine csk ?_
    refine csr ?_
    refine lv e_move ?_
    refine lv e_move ?_
    refine l_call rfl rfl rfl (cl0 (vs := [pp Jn 0, sB p43 ((x29.body.take 300)) c44]) tf102 rfl rfl) ?_
    intro w hw
    replace hw := hw.perm (L' := _ :: _ :: _ :: _ :: _ :: _ :: []) (by exact ((((((perm_front 5 rfl).trans (perm_front 4 rfl)).trans (perm_front 4 rfl)).trans (perm_front 4 rfl)).trans (perm_front 4 rfl)).trans (perm_front 5 rfl)))
    obtain ⟨β1, sb, kn, hw1, back⟩ := St.frame (L := [_]) (M := _ :: _ :: _ :: _ :: _ :: []) hw
    refine (append_down β1 w Jn b1 K I (x29.body.take 300) (by simp; omega) _ (kn _ (Knows.of_res 0 rfl (Sl.mono U8R _ _) fun _ h => lent_sl h)) hw1).mono ?_
    rintro e w' ⟨rfl, hw'⟩
    refine ⟨_, rfl, _, back _ _ hw', ?_⟩
    clear hw hw1 hw' back kn sb
    refine lv e_move ?_
    refine lv (v := .int .i64 (0)) (e_extract (vs := #[.int .i64 (0), .int .i64 (310)]) rfl rfl) ?_
    refine lv (v := .int .i64 (310)) (e_extract (vs := #[.int .i64 (0), .int .i64 (310)]) rfl rfl) ?_
    refine lv e_assign ?_
    refine lv e_assign ?_
    refine lnf ?_
    refine c_seq ?_
    refine c_any [⟨[], [], [0], [68], fun f => f 68 = .agg #[sB pH19 K.head cH22, sB pA20 K.a cA23, sB pB21 K.b cB24, Ix (K.power), Nx (I.epoch), Nx (I.next), sB ps25 I.state cs26, sB pr27 I.recs cr28, Nx (I.size), .bool true]⟩, ⟨[], [], [1], [69], fun f => f 69 = .agg #[Bx (x29.kind), Bx (x29.power), sB a37 x29.body (c38)]⟩, ⟨[1], [1], [], [70], fun f => f 70 = sB a37 (x29.body.take 300) (c38)⟩, ⟨[0, 1, 2], [0, 2], [], [71], fun f => f 71 = .tuple #[.agg #[sB pH19 K.head cH22, sB pA20 K.a cA23, sB pB21 K.b cB24, Ix (K.power), Nx (I.epoch), Nx (I.next), sB ps25 I.state cs26, sB pr27 I.recs cr28, Nx (I.size), .bool true], .int .i64 (0), .int .i64 (310)]⟩, ⟨[0, 1, 2, 3], [3], [], [67], fun f => f 67 = .tuple #[.agg #[sB pH19 K.head cH22, sB pA20 K.a cA23, sB pB21 K.b cB24, Ix (K.power), Nx (I.epoch), Nx (I.next), sB ps25 I.state cs26, sB pr27 I.recs cr28, Nx (I.size), .bool true], .int .i64 (0), .int .i64 (310)]⟩, ⟨[0, 1, 2, 3, 4], [4], [], [72], fun f => f 72 = .agg #[sB pH19 K.head cH22, sB pA20 K.a cA23, sB pB21 K.b cB24, Ix (K.power), Nx (I.epoch), Nx (I.next), sB ps25 I.state cs26, sB pr27 I.recs cr28, Nx (I.size), .bool true]⟩, ⟨[0, 1, 2, 3, 4], [4], [], [73], fun f => f 73 = .int .i64 (0)⟩, ⟨[0, 1, 2, 3, 4], [4], [], [74], fun f => f 74 = .int .i64 (310)⟩, ⟨[], [], [], [12], fun f => f 12 = .pointer (some ⟨(blk (f 12)), 0, none⟩)⟩, ⟨[0, 1, 2, 3, 4, 5, 8], [8, 5], [], [], fun _ => True⟩, ⟨[0, 1, 2, 3, 4, 5, 6, 8, 9], [6], [], [13], fun f => f 13 = .int .i64 (0)⟩, ⟨(List.range 11), [7], [], [14], fun f => f 14 = .int .i64 (310)⟩] [⟨none, none, [], [], fun _ => jourR Jn b1 I true⟩, ⟨none, none, [], [], fun _ => rB p43 (lentX (x29.body.take 300)) c44⟩, ⟨none, none, [1], [], fun _ => pt b42 (.cells #[Bx (x29.kind), Bx (x29.power), sB a37 x29.body (c38)] 47)⟩, ⟨none, none, [0], [], fun _ => pt b13 (.cells #[sB pH19 K.head cH22, sB pA20 K.a cA23, sB pB21 K.b cB24, Ix (K.power), Nx (I.epoch), Nx (I.next), sB ps25 I.state cs26, sB pr27 I.recs cr28, Nx (I.size), .bool true] 56)⟩, ⟨none, none, [3], [], fun _ => memV pH19 pA20 pB21 ps25 pr27 cH22 cA23 cB24 cs26 cr28 us K I⟩, ⟨none, none, [], [], fun _ => storeR b1 K⟩, ⟨(some 8), (some 9), [9], [12], fun f => pt (blk (f 12)) (.cells #[.slice none 0 0, .slice none 0 0, .slice none 0 0, .int .i64 (0), .int .i64 (0), .int .i64 (0), .slice none 0 0, .slice none 0 0, .int .i64 (0), .bool false] 56)⟩, ⟨(some 9), none, [], [12], fun f => pt (blk (f 12)) (.cells #[sB pH19 K.head cH22, sB pA20 K.a cA23, sB pB21 K.b cB24, Ix (K.power), Nx (I.epoch), Nx (I.next), sB ps25 I.state cs26, sB pr27 I.recs cr28, Nx (I.size), .bool true] 56)⟩] [(5, pp b13 0), (8, pp b42 0), (3, pp b1 0), (4, pp Jn 0), (9, sB p43 ((x29.body.take 300)) c44), (10, .int .i64 (0)), (11, .int .i64 (310)), (36, sB va zs14 (vc)), (37, Nx (zs14.length)), (38, Nx (k))] [2, 3, 0, 1, 4, 5, 6, 7, 8, 9] [] (by kernel_rfl) (by kernel_rfl) (by kernel_rfl) (by kernel_rfl) rfl ⟨rfl, rfl, rfl, rfl, rfl, rfl, rfl, rfl, rfl, rfl, trivial⟩ ⟨?_, ?_, ?_, ?_, ?_, ?_, ?_, ?_, ?_, ?_, ?_, ?_, trivial⟩ ?_
    ·rintro f M - ⟨i0, -⟩
     exact obv (L' := pt b13 (.cells #[sB pH19 K.head cH22, sB pA20 K.a cA23, sB pB21 K.b cB24, Ix (K.power), Nx (I.epoch), Nx (I.next), sB ps25 I.state cs26, sB pr27 I.recs cr28, Nx (I.size), .bool true] 56) :: M) (up_cons (d := 5) rfl i0) rfl (e_load tf154 rfl (k_pt 0 rfl rfl) rfl) (perm_front 0 rfl) (by rfl)
    ·rintro f M - ⟨i0, -⟩
     exact obv (L' := pt b42 (.cells #[Bx (x29.kind), Bx (x29.power), sB a37 x29.body (c38)] 47) :: M) (up_cons (d := 8) rfl i0) rfl (e_load tf87 rfl (k_pt 0 rfl rfl) rfl) (perm_front 0 rfl) (by rfl)
    ·rintro f M ⟨k0, -⟩ -
     refine ob_start (L' := M) (by rfl) (up_cons (d := 69) rfl k0) ?_
     refine lcf (cl0 (vs := [.agg #[Bx (x29.kind), Bx (x29.power), sB a37 x29.body (c38)]]) tf100 rfl rfl) rfl fun w β1 sb kn hw1 back => (body_ok β1 w hw1 x29 a37 c38 (by omega) (by omega) (Elems.mono _ _ _ _ _ sb he41)).mono ?_
     rintro e w' ⟨rfl, hw'⟩
     refine ⟨_, rfl, _, back _ _ hw', ?_⟩
     clear hw1 hw' back kn sb
     refine l_nil ?_
     exact f_owes_d (up_cons (d := 69) rfl k0) rfl (List.Perm.refl _)
    ·rintro f M ⟨k0, k1, -⟩ -
     refine ob_start (L' := memV pH19 pA20 pB21 ps25 pr27 cH22 cA23 cB24 cs26 cr28 us K I :: M) (by rfl) (up_cons (d := 70) (up_cons (d := 68) rfl k0) k1) ?_
     refine lcf (cl0 (vs := [.agg #[sB pH19 K.head cH22, sB pA20 K.a cA23, sB pB21 K.b cB24, Ix (K.power), Nx (I.epoch), Nx (I.next), sB ps25 I.state cs26, sB pr27 I.recs cr28, Nx (I.size), .bool true], sB a37 (x29.body.take 300) (c38)]) tf169 rfl rfl) rfl fun w β1 sb kn hw1 back => (rapp_down β1 w hw1 K _ _ _ (kn _ (Knows.of_res 0 rfl (Sl.mono U8R _ _) fun _ h => h.1)) (kn _ (Knows.of_res 0 rfl (Sl.mono U8R _ _) fun _ h => h.2.1)) (kn _ (Knows.of_res 0 rfl (Sl.mono U8R _ _) fun _ h => h.2.2.1)) I ps25 pr27 cs26 cr28 us hul (kn (fun h => Cs h (ba pr27) us) (Knows.of_res 0 rfl (Cs.mono _ _) fun _ h => h.2.2.2.2.1)) hu1 hpr (x29.body.take 300) _ (Sl.mono _ _ _ _ _ sb (⟨⟨_, _, rfl, by simp only [List.length_take]; omega, by omega, Elems.take 300 he41⟩⟩ : Sl U8R _ _ (x29.body.take 300))) (by simp; omega)).mono ?_
     rintro e w' ⟨rfl, hw'⟩
     refine ⟨_, rfl, _, back _ _ hw', ?_⟩
     clear hw1 hw' back kn sb
     refine l_nil ?_
     exact f_owes_d (up_cons (d := 70) (up_cons (d := 68) rfl k0) k1) rfl (perm_front 0 rfl)
    ·rintro f M ⟨k0, -⟩ -
     exact ob0 (up_cons (d := 71) rfl k0) rfl e_move (.refl _)
    ·rintro f M ⟨k0, -⟩ -
     exact ob0 (up_cons (d := 67) rfl k0) rfl (e_extract (vs := #[.agg #[sB pH19 K.head cH22, sB pA20 K.a cA23, sB pB21 K.b cB24, Ix (K.power), Nx (I.epoch), Nx (I.next), sB ps25 I.state cs26, sB pr27 I.recs cr28, Nx (I.size), .bool true], .int .i64 (0), .int .i64 (310)]) rfl rfl) (.refl _)
    ·rintro f M ⟨k0, -⟩ -
     exact ob0 (up_cons (d := 67) rfl k0) rfl (e_extract (vs := #[.agg #[sB pH19 K.head cH22, sB pA20 K.a cA23, sB pB21 K.b cB24, Ix (K.power), Nx (I.epoch), Nx (I.next), sB ps25 I.state cs26, sB pr27 I.recs cr28, Nx (I.size), .bool true], .int .i64 (0), .int .i64 (310)]) rfl rfl) (.refl _)
    ·rintro f M ⟨k0, -⟩ -
     exact ob0 (up_cons (d := 67) rfl k0) rfl (e_extract (vs := #[.agg #[sB pH19 K.head cH22, sB pA20 K.a cA23, sB pB21 K.b cB24, Ix (K.power), Nx (I.epoch), Nx (I.next), sB ps25 I.state cs26, sB pr27 I.recs cr28, Nx (I.size), .bool true], .int .i64 (0), .int .i64 (310)]) rfl rfl) (.refl _)
    ·rintro f M - -
     refine ob_start (L' := M) (by rfl) rfl ?_
     refine l_mv rfl rfl rfl (m_alloc tf151) ?_
     rintro _ _ ⟨b82, rfl, rfl⟩
     refine l_nil ?_
     exact f_owes_d rfl rfl (perm_front 0 rfl)
    ·rintro f M ⟨k0, k1, -⟩ -
     have hs12 : f 12 = .pointer (some ⟨(blk (f 12)), 0, none⟩) := k0
     refine ob_start (L' := pt (blk (f 12)) (.cells #[.slice none 0 0, .slice none 0 0, .slice none 0 0, .int .i64 (0), .int .i64 (0), .int .i64 (0), .slice none 0 0, .slice none 0 0, .int .i64 (0), .bool false] 56) :: M) (by rfl) (up_cons (d := 72) (up_cons rfl hs12) k1) ?_
     refine lu (m_store 0 tf154 (cs' := #[sB pH19 K.head cH22, sB pA20 K.a cA23, sB pB21 K.b cB24, Ix (K.power), Nx (I.epoch), Nx (I.next), sB ps25 I.state cs26, sB pr27 I.recs cr28, Nx (I.size), .bool true]) rfl rfl rfl rfl rfl rfl rfl) ?_
     refine l_nil ?_
     exact f_owes_n (up_cons (d := 72) (up_cons rfl hs12) k1) trivial (perm_front 0 rfl)
    ·rintro f M ⟨k0, -⟩ -
     exact ob0 (up_cons (d := 73) rfl k0) rfl e_assign (.refl _)
    ·rintro f M ⟨k0, -⟩ -
     exact ob0 (up_cons (d := 74) rfl k0) rfl e_assign (.refl _)
    rintro fa83 ⟨-, -, -, -, -, -, -, -, k8, -, k10, k11, -⟩ ⟨j0, j1, j2, j3, j4, j5, j6, j7, j8, j9, -⟩
    refine f_re (L' := [jourR Jn b1 I true, rB p43 (lentX (x29.body.take 300)) c44, pt b42 (.cells #[Bx (x29.kind), Bx (x29.power), sB a37 x29.body (c38)] 47), pt b13 (.cells #[sB pH19 K.head cH22, sB pA20 K.a cA23, sB pB21 K.b cB24, Ix (K.power), Nx (I.epoch), Nx (I.next), sB ps25 I.state cs26, sB pr27 I.recs cr28, Nx (I.size), .bool true] 56), memV pH19 pA20 pB21 ps25 pr27 cH22 cA23 cB24 cs26 cr28 us K I, storeR b1 K, pt (blk (fa83 12)) (.cells #[sB pH19 K.head cH22, sB pA20 K.a cA23, sB pB21 K.b cB24, Ix (K.power), Nx (I.epoch), Nx (I.next), sB ps25 I.state cs26, sB pr27 I.recs cr28, Nx (I.size), .bool true] 56)]) (by rfl) ?_
    refine f_rebase (d := 3) j0 ?_
    refine f_rebase (d := 4) j1 ?_
    refine f_rebase (d := 5) j2 ?_
    refine f_rebase (d := 8) j3 ?_
    refine f_rebase (d := 9) j4 ?_
    refine f_rebase (d := 10) j5 ?_
    refine f_rebase (d := 11) j6 ?_
    refine f_rebase (d := 12) k8 ?_
    refine f_rebase (d := 13) k10 ?_
    refine f_rebase (d := 14) k11 ?_
    refine f_rebase (d := 36) j7 ?_
    refine f_rebase (d := 37) j8 ?_
    refine f_rebase (d := 38) j9 ?_
    refine ftc ?_
    refine lv (v := .agg #[sB pH19 K.head cH22, sB pA20 K.a cA23, sB pB21 K.b cB24, Ix (K.power), Nx (I.epoch), Nx (I.next), sB ps25 I.state cs26, sB pr27 I.recs cr28, Nx (I.size), .bool true]) (e_load tf154 rfl (k_pt 6 rfl rfl) rfl) ?_
    refine lu (m_store 3 tf154 (cs' := #[sB pH19 K.head cH22, sB pA20 K.a cA23, sB pB21 K.b cB24, Ix (K.power), Nx (I.epoch), Nx (I.next), sB ps25 I.state cs26, sB pr27 I.recs cr28, Nx (I.size), .bool true]) rfl rfl rfl rfl rfl rfl rfl) ?_
    refine lnc ?_
    refine lv e_move ?_
    refine lv e_move ?_
    refine lv (v := .bool false) (e_neq (a := (0 : Int)) (b := (0 : Int)) rfl rfl) ?_
    refine lv e_move ?_
    refine g_val (v := .int .i64 (310)) rfl rfl rfl rfl rfl e_move ?_
    refine g_val (v := .int .i64 (310)) rfl rfl rfl rfl rfl e_move ?_
    refine g_val (v := .bool false) rfl rfl rfl rfl rfl (e_neq (a := (310 : Int)) (b := (310 : Int)) rfl rfl) ?_
    refine lv (v := .bool false) (e_pick_f rfl) ?_
    refine lnf ?_
    refine c_no rfl ?_
    refine c_skip ?_
    refine f_block ?_
    refine f_pi [3, 4, 0, 1, 2, 5, 6] 7 rfl (by kernel_rfl) ?_
    refine f_seal (K := [pt b13 (.cells #[sB pH19 K.head cH22, sB pA20 K.a cA23, sB pB21 K.b cB24, Ix (K.power), Nx (I.epoch), Nx (I.next), sB ps25 I.state cs26, sB pr27 I.recs cr28, Nx (I.size), .bool true] 56), memV pH19 pA20 pB21 ps25 pr27 cH22 cA23 cB24 cs26 cr28 us K I]) (F := rjE b13 K I true) rfl (fun _ h => ⟨_, _, _, _, _, _, _, _, _, _, sat_UR h⟩) ?_
    refine f_pi [1, 4, 0, 2, 3, 5] 6 rfl (by kernel_rfl) ?_
    refine f_mask [true, true, true, true, true, false] rfl ?_
    exact f_cut ⟨2, K, I, Jn, ⟨rfl, rfl, rfl, rfl, rfl, rfl, rfl, rfl⟩, rfl, by omega, hS, fun h => by omega, ⟨ix, hIx.mono (by omega)⟩, fun h => by omega⟩
   refine csr ?_
   refine lv (e_eql (a := ((x29.kind.toNat % 5 : Nat) : Int)) (b := (2 : Int)) rfl rfl) ?_
   refine lv e_assign ?_
   refine lnf ?_
   refine c_if (((x29.kind.toNat % 5 : Nat) : Int) = (2 : Int)) rfl (fun hc84 => ?_) (fun hc84 => ?_)
   ·refine cs2 ?_
    rcases (show md = 0 ∨ md = 1 ∨ md = 2 from by omega) with rfl | rfl | rfl
    ·refine rebase (d := 4) (v := .pointer none) rfl ?_
     refine c_re (L' := [rB p43 (lentX (x29.body.take 300)) c44, pt b42 (.cells #[Bx (x29.kind), Bx (x29.power), sB a37 x29.body (c38)] 47), pt b13 (.cells #[sB pH19 K.head cH22, sB pA20 K.a cA23, sB pB21 K.b cB24, Ix (K.power), Nx (I.epoch), Nx (I.next), sB ps25 I.state cs26, sB pr27 I.recs cr28, Nx (I.size), .bool false] 56), memV pH19 pA20 pB21 ps25 pr27 cH22 cA23 cB24 cs26 cr28 us K I, jm 0 Jn b1 I, storeR b1 K]) (by rfl) ?_
     refine c_region ?_
     refine lv e_move ?_
     refine lv (v := .bool true) (e_eql_pnil (p := none) rfl rfl tf36) ?_
     refine lnf ?_
     refine c_yes rfl ?_
     refine c_exit ?_
     refine f_then_exit ?_
     refine f_exit_other rfl ?_
     refine f_then_exit ?_
     refine f_exit ?_
     refine f_then ?_
     refine c_pi [2, 3, 0, 1, 4, 5] 6 rfl (by kernel_rfl) ?_
     refine c_seal (K := [pt b13 (.cells #[sB pH19 K.head cH22, sB pA20 K.a cA23, sB pB21 K.b cB24, Ix (K.power), Nx (I.epoch), Nx (I.next), sB ps25 I.state cs26, sB pr27 I.recs cr28, Nx (I.size), .bool false] 56), memV pH19 pA20 pB21 ps25 pr27 cH22 cA23 cB24 cs26 cr28 us K I]) (F := rjE b13 K I false) rfl (fun _ h => ⟨_, _, _, _, _, _, _, _, _, _, sat_UR h⟩) ?_
     refine c_region ?_
     refine lv (v := Nx (k + 1)) (e_add (a := ((k : Nat) : Int)) (b := (1 : Int)) rfl rfl (i64n (by omega) (by omega))) ?_
     refine lv e_move ?_
     refine l_nil ?_
     refine f_perm (L' := [jm 0 Jn b1 I, storeR b1 K, rjE b13 K I false, rB p43 (lentX (x29.body.take 300)) c44, pt b42 (.cells #[Bx (x29.kind), Bx (x29.power), sB a37 x29.body (c38)] 47)]) (perm_ix [3, 4, 0, 1, 2] 5 rfl (by kernel_rfl) (by kernel_rfl)) ?_
     refine f_mask (L' := [jm 0 Jn b1 I, storeR b1 K, rjE b13 K I false]) [true, true, true, false, false] rfl ?_
     exact f_cut ⟨(k + 1, 0, K, I, Jn), ⟨⟨rfl, rfl, rfl, rfl, rfl, rfl⟩, rfl, ⟨by omega, by omega, hS, fun h => by omega, ⟨ix, hIx.mono (by omega)⟩, hz0⟩⟩, (show zs14.length - (k + 1) < zs14.length - k from by omega)⟩
    ·refine rebase (d := 4) (v := pp Jn 0) rfl ?_
     refine c_re (L' := [rB p43 (lentX (x29.body.take 300)) c44, pt b42 (.cells #[Bx (x29.kind), Bx (x29.power), sB a37 x29.body (c38)] 47), pt b13 (.cells #[sB pH19 K.head cH22, sB pA20 K.a cA23, sB pB21 K.b cB24, Ix (K.power), Nx (I.epoch), Nx (I.next), sB ps25 I.state cs26, sB pr27 I.recs cr28, Nx (I.size), .bool false] 56), memV pH19 pA20 pB21 ps25 pr27 cH22 cA23 cB24 cs26 cr28 us K I, jourR Jn b1 I false, storeR b1 K]) (by rfl) ?_
     have hI := hI1 rfl
     have hnN := hI.nN
     have hsz0 := hI.sz
     have heN := hI.eN
     have hrl0 := hI.wf.next
     have hla := hI.la
     have hlb := hI.lb
     have hln := hS.len
     refine c_region ?_
     refine lv e_move ?_
     refine lv (v := .bool false) (e_eql_pnil (p := some (⟨Jn, 0, none⟩)) rfl rfl tf36) ?_
     refine lnf ?_
     refine c_no rfl ?_
     refine csk ?_
     refine c_seq ?_
     by_cases hc : ckOk K (I.epoch + 1) I.next (x29.body.take 300)
     ·have hI2 := hI.ck_ok (by omega) (by simp; omega) hc
      refine c_region ?_
      refine lv e_move ?_
      refine lv e_move ?_
      refine l_call rfl rfl rfl (cl0 (vs := [pp Jn 0, sB p43 ((x29.body.take 300)) c44]) tf103 rfl rfl) ?_
      intro w hw
      replace hw := hw.perm (L' := _ :: _ :: _ :: _ :: _ :: _ :: []) (by exact ((((((perm_front 3 rfl).trans (perm_front 3 rfl)).trans (perm_front 3 rfl)).trans (perm_front 3 rfl)).trans (perm_front 5 rfl)).trans (perm_front 5 rfl)))
      obtain ⟨β1, sb, kn, hw1, back⟩ := St.frame (L := [_, _]) (M := _ :: _ :: _ :: _ :: []) hw
      refine (checkp_ok β1 w Jn b1 K I (x29.body.take 300) (by simp; omega) hfit (by omega) hc _ (kn _ (Knows.of_res 0 rfl (Sl.mono U8R _ _) fun _ h => lent_sl h)) hw1).mono ?_
      rintro e w' ⟨rfl, hw'⟩
      refine ⟨_, rfl, _, back _ _ hw', ?_⟩
      clear hw hw1 hw' back kn sb
      refine lv e_assign ?_
      refine lnf ?_
      refine c_seq ?_
      refine c_any [⟨[], [], [0], [92], fun f => f 92 = .agg #[sB pH19 K.head cH22, sB pA20 K.a cA23, sB pB21 K.b cB24, Ix (K.power), Nx (I.epoch), Nx (I.next), sB ps25 I.state cs26, sB pr27 I.recs cr28, Nx (I.size), .bool false]⟩, ⟨[], [], [1], [93], fun f => f 93 = .agg #[Bx (x29.kind), Bx (x29.power), sB a37 x29.body (c38)]⟩, ⟨[1], [1], [], [94], fun f => f 94 = sB a37 (x29.body.take 300) (c38)⟩, ⟨[0, 1, 2], [0, 2], [], [95], fun f => f 95 = .tuple #[.agg #[sB (sla (prt 0 (prt 0 (f 95)))) ((ckS K (I.epoch + 1) I.next (x29.body.take 300)).head) (slc (prt 0 (prt 0 (f 95)))), sB (sla (prt 1 (prt 0 (f 95)))) ((ckS K (I.epoch + 1) I.next (x29.body.take 300)).a) (slc (prt 1 (prt 0 (f 95)))), sB (sla (prt 2 (prt 0 (f 95)))) ((ckS K (I.epoch + 1) I.next (x29.body.take 300)).b) (slc (prt 2 (prt 0 (f 95)))), Ix ((ckS K (I.epoch + 1) I.next (x29.body.take 300)).power), Nx ((ckI I (x29.body.take 300)).epoch), Nx ((ckI I (x29.body.take 300)).next), sB (sla (prt 6 (prt 0 (f 95)))) ((x29.body.take 300)) (slc (prt 6 (prt 0 (f 95)))), sB none (ckI I (x29.body.take 300)).recs 0, Nx ((ckI I (x29.body.take 300)).size), .bool false], .int .i64 (0)]⟩, ⟨[0, 1, 2, 3], [3], [], [91, 95], fun f => f 91 = .tuple #[.agg #[sB (sla (prt 0 (prt 0 (f 95)))) ((ckS K (I.epoch + 1) I.next (x29.body.take 300)).head) (slc (prt 0 (prt 0 (f 95)))), sB (sla (prt 1 (prt 0 (f 95)))) ((ckS K (I.epoch + 1) I.next (x29.body.take 300)).a) (slc (prt 1 (prt 0 (f 95)))), sB (sla (prt 2 (prt 0 (f 95)))) ((ckS K (I.epoch + 1) I.next (x29.body.take 300)).b) (slc (prt 2 (prt 0 (f 95)))), Ix ((ckS K (I.epoch + 1) I.next (x29.body.take 300)).power), Nx ((ckI I (x29.body.take 300)).epoch), Nx ((ckI I (x29.body.take 300)).next), sB (sla (prt 6 (prt 0 (f 95)))) ((x29.body.take 300)) (slc (prt 6 (prt 0 (f 95)))), sB none (ckI I (x29.body.take 300)).recs 0, Nx ((ckI I (x29.body.take 300)).size), .bool false], .int .i64 (0)]⟩, ⟨[0, 1, 2, 3, 4], [4], [], [95, 96], fun f => f 96 = .agg #[sB (sla (prt 0 (prt 0 (f 95)))) ((ckS K (I.epoch + 1) I.next (x29.body.take 300)).head) (slc (prt 0 (prt 0 (f 95)))), sB (sla (prt 1 (prt 0 (f 95)))) ((ckS K (I.epoch + 1) I.next (x29.body.take 300)).a) (slc (prt 1 (prt 0 (f 95)))), sB (sla (prt 2 (prt 0 (f 95)))) ((ckS K (I.epoch + 1) I.next (x29.body.take 300)).b) (slc (prt 2 (prt 0 (f 95)))), Ix ((ckS K (I.epoch + 1) I.next (x29.body.take 300)).power), Nx ((ckI I (x29.body.take 300)).epoch), Nx ((ckI I (x29.body.take 300)).next), sB (sla (prt 6 (prt 0 (f 95)))) ((x29.body.take 300)) (slc (prt 6 (prt 0 (f 95)))), sB none (ckI I (x29.body.take 300)).recs 0, Nx ((ckI I (x29.body.take 300)).size), .bool false]⟩, ⟨[0, 1, 2, 3, 4], [4], [], [97], fun f => f 97 = .int .i64 (0)⟩, ⟨[], [], [], [16], fun f => f 16 = .pointer (some ⟨(blk (f 16)), 0, none⟩)⟩, ⟨[0, 1, 2, 3, 4, 5, 7], [7, 5], [], [], fun _ => True⟩, ⟨(List.range 9), [6], [], [17], fun f => f 17 = .int .i64 (0)⟩] [⟨none, none, [], [], fun _ => jourR Jn b1 (ckI I (x29.body.take 300)) false⟩, ⟨none, none, [], [], fun _ => storeR b1 (ckS K (I.epoch + 1) I.next (x29.body.take 300))⟩, ⟨none, none, [], [], fun _ => rB p43 (lentX (x29.body.take 300)) c44⟩, ⟨none, none, [1], [], fun _ => pt b42 (.cells #[Bx (x29.kind), Bx (x29.power), sB a37 x29.body (c38)] 47)⟩, ⟨none, none, [0], [], fun _ => pt b13 (.cells #[sB pH19 K.head cH22, sB pA20 K.a cA23, sB pB21 K.b cB24, Ix (K.power), Nx (I.epoch), Nx (I.next), sB ps25 I.state cs26, sB pr27 I.recs cr28, Nx (I.size), .bool false] 56)⟩, ⟨none, none, [3], [], fun _ => memV pH19 pA20 pB21 ps25 pr27 cH22 cA23 cB24 cs26 cr28 us K I⟩, ⟨(some 3), none, [], [95], fun f => rB (sla (prt 0 (prt 0 (f 95)))) ((ckS K (I.epoch + 1) I.next (x29.body.take 300)).head) (slc (prt 0 (prt 0 (f 95))))⟩, ⟨(some 3), none, [], [95], fun f => rB (sla (prt 1 (prt 0 (f 95)))) ((ckS K (I.epoch + 1) I.next (x29.body.take 300)).a) (slc (prt 1 (prt 0 (f 95))))⟩, ⟨(some 3), none, [], [95], fun f => rB (sla (prt 2 (prt 0 (f 95)))) ((ckS K (I.epoch + 1) I.next (x29.body.take 300)).b) (slc (prt 2 (prt 0 (f 95))))⟩, ⟨(some 3), none, [], [95], fun f => rB (sla (prt 6 (prt 0 (f 95)))) ((x29.body.take 300)) (slc (prt 6 (prt 0 (f 95))))⟩, ⟨(some 7), (some 8), [8], [16], fun f => pt (blk (f 16)) (.cells #[.slice none 0 0, .slice none 0 0, .slice none 0 0, .int .i64 (0), .int .i64 (0), .int .i64 (0), .slice none 0 0, .slice none 0 0, .int .i64 (0), .bool false] 56)⟩, ⟨(some 8), none, [], [16, 95], fun f => pt (blk (f 16)) (.cells #[sB (sla (prt 0 (prt 0 (f 95)))) ((ckS K (I.epoch + 1) I.next (x29.body.take 300)).head) (slc (prt 0 (prt 0 (f 95)))), sB (sla (prt 1 (prt 0 (f 95)))) ((ckS K (I.epoch + 1) I.next (x29.body.take 300)).a) (slc (prt 1 (prt 0 (f 95)))), sB (sla (prt 2 (prt 0 (f 95)))) ((ckS K (I.epoch + 1) I.next (x29.body.take 300)).b) (slc (prt 2 (prt 0 (f 95)))), Ix ((ckS K (I.epoch + 1) I.next (x29.body.take 300)).power), Nx ((ckI I (x29.body.take 300)).epoch), Nx ((ckI I (x29.body.take 300)).next), sB (sla (prt 6 (prt 0 (f 95)))) ((x29.body.take 300)) (slc (prt 6 (prt 0 (f 95)))), sB none (ckI I (x29.body.take 300)).recs 0, Nx ((ckI I (x29.body.take 300)).size), .bool false] 56)⟩] [(5, pp b13 0), (8, pp b42 0), (3, pp b1 0), (4, pp Jn 0), (9, sB p43 ((x29.body.take 300)) c44), (15, .int .i64 (0)), (36, sB va zs14 (vc)), (37, Nx (zs14.length)), (38, Nx (k))] [2, 3, 0, 1, 4, 5, 6, 7, 8] [] (by kernel_rfl) (by kernel_rfl) (by kernel_rfl) (by kernel_rfl) rfl ⟨rfl, rfl, rfl, rfl, rfl, rfl, rfl, rfl, rfl, trivial⟩ ⟨?_, ?_, ?_, ?_, ?_, ?_, ?_, ?_, ?_, ?_, trivial⟩ ?_
      ·rintro f M - ⟨i0, -⟩
       exact obv (L' := pt b13 (.cells #[sB pH19 K.head cH22, sB pA20 K.a cA23, sB pB21 K.b cB24, Ix (K.power), Nx (I.epoch), Nx (I.next), sB ps25 I.state cs26, sB pr27 I.recs cr28, Nx (I.size), .bool false] 56) :: M) (up_cons (d := 5) rfl i0) rfl (e_load tf154 rfl (k_pt 0 rfl rfl) rfl) (perm_front 0 rfl) (by rfl)
      ·rintro f M - ⟨i0, -⟩
       exact obv (L' := pt b42 (.cells #[Bx (x29.kind), Bx (x29.power), sB a37 x29.body (c38)] 47) :: M) (up_cons (d := 8) rfl i0) rfl (e_load tf87 rfl (k_pt 0 rfl rfl) rfl) (perm_front 0 rfl) (by rfl)
      ·rintro f M ⟨k0, -⟩ -
       refine ob_start (L' := M) (by rfl) (up_cons (d := 93) rfl k0) ?_
       refine lcf (cl0 (vs := [.agg #[Bx (x29.kind), Bx (x29.power), sB a37 x29.body (c38)]]) tf100 rfl rfl) rfl fun w β1 sb kn hw1 back => (body_ok β1 w hw1 x29 a37 c38 (by omega) (by omega) (Elems.mono _ _ _ _ _ sb he41)).mono ?_
       rintro e w' ⟨rfl, hw'⟩
       refine ⟨_, rfl, _, back _ _ hw', ?_⟩
       clear hw1 hw' back kn sb
       refine l_nil ?_
       exact f_owes_d (up_cons (d := 93) rfl k0) rfl (List.Perm.refl _)
      ·rintro f M ⟨k0, k1, -⟩ -
       refine ob_start (L' := memV pH19 pA20 pB21 ps25 pr27 cH22 cA23 cB24 cs26 cr28 us K I :: M) (by rfl) (up_cons (d := 94) (up_cons (d := 92) rfl k0) k1) ?_
       refine lcf (cl0 (vs := [.agg #[sB pH19 K.head cH22, sB pA20 K.a cA23, sB pB21 K.b cB24, Ix (K.power), Nx (I.epoch), Nx (I.next), sB ps25 I.state cs26, sB pr27 I.recs cr28, Nx (I.size), .bool false], sB a37 (x29.body.take 300) (c38)]) tf170 rfl rfl) rfl fun w β1 sb kn hw1 back => (rckp_ok2 β1 w hw1 K _ _ _ (kn _ (Knows.of_res 0 rfl (Sl.mono U8R _ _) fun _ h => h.1)) (kn _ (Knows.of_res 0 rfl (Sl.mono U8R _ _) fun _ h => h.2.1)) (kn _ (Knows.of_res 0 rfl (Sl.mono U8R _ _) fun _ h => h.2.2.1)) I ps25 pr27 cs26 cr28 (x29.body.take 300) _ (Sl.mono _ _ _ _ _ sb (⟨⟨_, _, rfl, by simp only [List.length_take]; omega, by omega, Elems.take 300 he41⟩⟩ : Sl U8R _ _ (x29.body.take 300))) hfit ⟨by omega, by omega, by omega, by omega⟩ (by simp; omega) (by omega) hc).mono ?_
       rintro e w' ⟨pH93, pA94, pB95, cH96, cA97, cB98, q99, c100, rfl, hw'⟩
       refine ⟨_, rfl, _, back _ _ hw', ?_⟩
       clear hw1 hw' back kn sb
       refine l_nil ?_
       exact f_owes_d (up_cons (d := 94) (up_cons (d := 92) rfl k0) k1) rfl (((((perm_front 3 rfl).trans (perm_front 3 rfl)).trans (perm_front 3 rfl)).trans (perm_front 3 rfl)).trans (perm_front 4 rfl))
      ·rintro f M ⟨k0, -⟩ -
       have hs95 : f 95 = .tuple #[.agg #[sB (sla (prt 0 (prt 0 (f 95)))) ((ckS K (I.epoch + 1) I.next (x29.body.take 300)).head) (slc (prt 0 (prt 0 (f 95)))), sB (sla (prt 1 (prt 0 (f 95)))) ((ckS K (I.epoch + 1) I.next (x29.body.take 300)).a) (slc (prt 1 (prt 0 (f 95)))), sB (sla (prt 2 (prt 0 (f 95)))) ((ckS K (I.epoch + 1) I.next (x29.body.take 300)).b) (slc (prt 2 (prt 0 (f 95)))), Ix ((ckS K (I.epoch + 1) I.next (x29.body.take 300)).power), Nx ((ckI I (x29.body.take 300)).epoch), Nx ((ckI I (x29.body.take 300)).next), sB (sla (prt 6 (prt 0 (f 95)))) ((x29.body.take 300)) (slc (prt 6 (prt 0 (f 95)))), sB none (ckI I (x29.body.take 300)).recs 0, Nx ((ckI I (x29.body.take 300)).size), .bool false], .int .i64 (0)] := k0
       exact ob0 (up_cons rfl hs95) rfl e_move (.refl _)
      ·rintro f M ⟨k0, -⟩ -
       have hs91 : f 91 = .tuple #[.agg #[sB (sla (prt 0 (prt 0 (f 95)))) ((ckS K (I.epoch + 1) I.next (x29.body.take 300)).head) (slc (prt 0 (prt 0 (f 95)))), sB (sla (prt 1 (prt 0 (f 95)))) ((ckS K (I.epoch + 1) I.next (x29.body.take 300)).a) (slc (prt 1 (prt 0 (f 95)))), sB (sla (prt 2 (prt 0 (f 95)))) ((ckS K (I.epoch + 1) I.next (x29.body.take 300)).b) (slc (prt 2 (prt 0 (f 95)))), Ix ((ckS K (I.epoch + 1) I.next (x29.body.take 300)).power), Nx ((ckI I (x29.body.take 300)).epoch), Nx ((ckI I (x29.body.take 300)).next), sB (sla (prt 6 (prt 0 (f 95)))) ((x29.body.take 300)) (slc (prt 6 (prt 0 (f 95)))), sB none (ckI I (x29.body.take 300)).recs 0, Nx ((ckI I (x29.body.take 300)).size), .bool false], .int .i64 (0)] := k0
       exact ob0 (up_cons rfl hs91) rfl (e_extract (vs := #[.agg #[sB (sla (prt 0 (prt 0 (f 95)))) ((ckS K (I.epoch + 1) I.next (x29.body.take 300)).head) (slc (prt 0 (prt 0 (f 95)))), sB (sla (prt 1 (prt 0 (f 95)))) ((ckS K (I.epoch + 1) I.next (x29.body.take 300)).a) (slc (prt 1 (prt 0 (f 95)))), sB (sla (prt 2 (prt 0 (f 95)))) ((ckS K (I.epoch + 1) I.next (x29.body.take 300)).b) (slc (prt 2 (prt 0 (f 95)))), Ix ((ckS K (I.epoch + 1) I.next (x29.body.take 300)).power), Nx ((ckI I (x29.body.take 300)).epoch), Nx ((ckI I (x29.body.take 300)).next), sB (sla (prt 6 (prt 0 (f 95)))) ((x29.body.take 300)) (slc (prt 6 (prt 0 (f 95)))), sB none (ckI I (x29.body.take 300)).recs 0, Nx ((ckI I (x29.body.take 300)).size), .bool false], .int .i64 (0)]) rfl rfl) (.refl _)
      ·rintro f M ⟨k0, -⟩ -
       have hs91 : f 91 = .tuple #[.agg #[sB (sla (prt 0 (prt 0 (f 95)))) ((ckS K (I.epoch + 1) I.next (x29.body.take 300)).head) (slc (prt 0 (prt 0 (f 95)))), sB (sla (prt 1 (prt 0 (f 95)))) ((ckS K (I.epoch + 1) I.next (x29.body.take 300)).a) (slc (prt 1 (prt 0 (f 95)))), sB (sla (prt 2 (prt 0 (f 95)))) ((ckS K (I.epoch + 1) I.next (x29.body.take 300)).b) (slc (prt 2 (prt 0 (f 95)))), Ix ((ckS K (I.epoch + 1) I.next (x29.body.take 300)).power), Nx ((ckI I (x29.body.take 300)).epoch), Nx ((ckI I (x29.body.take 300)).next), sB (sla (prt 6 (prt 0 (f 95)))) ((x29.body.take 300)) (slc (prt 6 (prt 0 (f 95)))), sB none (ckI I (x29.body.take 300)).recs 0, Nx ((ckI I (x29.body.take 300)).size), .bool false], .int .i64 (0)] := k0
       exact ob0 (up_cons rfl hs91) rfl (e_extract (vs := #[.agg #[sB (sla (prt 0 (prt 0 (f 95)))) ((ckS K (I.epoch + 1) I.next (x29.body.take 300)).head) (slc (prt 0 (prt 0 (f 95)))), sB (sla (prt 1 (prt 0 (f 95)))) ((ckS K (I.epoch + 1) I.next (x29.body.take 300)).a) (slc (prt 1 (prt 0 (f 95)))), sB (sla (prt 2 (prt 0 (f 95)))) ((ckS K (I.epoch + 1) I.next (x29.body.take 300)).b) (slc (prt 2 (prt 0 (f 95)))), Ix ((ckS K (I.epoch + 1) I.next (x29.body.take 300)).power), Nx ((ckI I (x29.body.take 300)).epoch), Nx ((ckI I (x29.body.take 300)).next), sB (sla (prt 6 (prt 0 (f 95)))) ((x29.body.take 300)) (slc (prt 6 (prt 0 (f 95)))), sB none (ckI I (x29.body.take 300)).recs 0, Nx ((ckI I (x29.body.take 300)).size), .bool false], .int .i64 (0)]) rfl rfl) (.refl _)
      ·rintro f M - -
       refine ob_start (L' := M) (by rfl) rfl ?_
       refine l_mv rfl rfl rfl (m_alloc tf151) ?_
       rintro _ _ ⟨b102, rfl, rfl⟩
       refine l_nil ?_
       exact f_owes_d rfl rfl (perm_front 0 rfl)
      ·rintro f M ⟨k0, k1, -⟩ -
       have hs16 : f 16 = .pointer (some ⟨(blk (f 16)), 0, none⟩) := k0
       have hs96 : f 96 = .agg #[sB (sla (prt 0 (prt 0 (f 95)))) ((ckS K (I.epoch + 1) I.next (x29.body.take 300)).head) (slc (prt 0 (prt 0 (f 95)))), sB (sla (prt 1 (prt 0 (f 95)))) ((ckS K (I.epoch + 1) I.next (x29.body.take 300)).a) (slc (prt 1 (prt 0 (f 95)))), sB (sla (prt 2 (prt 0 (f 95)))) ((ckS K (I.epoch + 1) I.next (x29.body.take 300)).b) (slc (prt 2 (prt 0 (f 95)))), Ix ((ckS K (I.epoch + 1) I.next (x29.body.take 300)).power), Nx ((ckI I (x29.body.take 300)).epoch), Nx ((ckI I (x29.body.take 300)).next), sB (sla (prt 6 (prt 0 (f 95)))) ((x29.body.take 300)) (slc (prt 6 (prt 0 (f 95)))), sB none (ckI I (x29.body.take 300)).recs 0, Nx ((ckI I (x29.body.take 300)).size), .bool false] := k1
       refine ob_start (L' := pt (blk (f 16)) (.cells #[.slice none 0 0, .slice none 0 0, .slice none 0 0, .int .i64 (0), .int .i64 (0), .int .i64 (0), .slice none 0 0, .slice none 0 0, .int .i64 (0), .bool false] 56) :: M) (by rfl) (up_cons (up_cons rfl hs16) hs96) ?_
       refine lu (m_store 0 tf154 (cs' := #[sB (sla (prt 0 (prt 0 (f 95)))) ((ckS K (I.epoch + 1) I.next (x29.body.take 300)).head) (slc (prt 0 (prt 0 (f 95)))), sB (sla (prt 1 (prt 0 (f 95)))) ((ckS K (I.epoch + 1) I.next (x29.body.take 300)).a) (slc (prt 1 (prt 0 (f 95)))), sB (sla (prt 2 (prt 0 (f 95)))) ((ckS K (I.epoch + 1) I.next (x29.body.take 300)).b) (slc (prt 2 (prt 0 (f 95)))), Ix ((ckS K (I.epoch + 1) I.next (x29.body.take 300)).power), Nx ((ckI I (x29.body.take 300)).epoch), Nx ((ckI I (x29.body.take 300)).next), sB (sla (prt 6 (prt 0 (f 95)))) ((x29.body.take 300)) (slc (prt 6 (prt 0 (f 95)))), sB none (ckI I (x29.body.take 300)).recs 0, Nx ((ckI I (x29.body.take 300)).size), .bool false]) rfl rfl rfl rfl rfl rfl rfl) ?_
       refine l_nil ?_
       exact f_owes_n (up_cons (up_cons rfl hs16) hs96) trivial (perm_front 0 rfl)
      ·rintro f M ⟨k0, -⟩ -
       exact ob0 (up_cons (d := 97) rfl k0) rfl e_assign (.refl _)
      rintro fa103 ⟨-, -, -, -, -, -, -, k7, -, k9, -⟩ ⟨j0, j1, j2, j3, j4, j5, j6, j7, j8, -⟩
      refine f_re (L' := [jourR Jn b1 (ckI I (x29.body.take 300)) false, storeR b1 (ckS K (I.epoch + 1) I.next (x29.body.take 300)), rB p43 (lentX (x29.body.take 300)) c44, pt b42 (.cells #[Bx (x29.kind), Bx (x29.power), sB a37 x29.body (c38)] 47), pt b13 (.cells #[sB pH19 K.head cH22, sB pA20 K.a cA23, sB pB21 K.b cB24, Ix (K.power), Nx (I.epoch), Nx (I.next), sB ps25 I.state cs26, sB pr27 I.recs cr28, Nx (I.size), .bool false] 56), memV pH19 pA20 pB21 ps25 pr27 cH22 cA23 cB24 cs26 cr28 us K I, rB (sla (prt 0 (prt 0 (fa103 95)))) ((ckS K (I.epoch + 1) I.next (x29.body.take 300)).head) (slc (prt 0 (prt 0 (fa103 95)))), rB (sla (prt 1 (prt 0 (fa103 95)))) ((ckS K (I.epoch + 1) I.next (x29.body.take 300)).a) (slc (prt 1 (prt 0 (fa103 95)))), rB (sla (prt 2 (prt 0 (fa103 95)))) ((ckS K (I.epoch + 1) I.next (x29.body.take 300)).b) (slc (prt 2 (prt 0 (fa103 95)))), rB (sla (prt 6 (prt 0 (fa103 95)))) ((x29.body.take 300)) (slc (prt 6 (prt 0 (fa103 95)))), pt (blk (fa103 16)) (.cells #[sB (sla (prt 0 (prt 0 (fa103 95)))) ((ckS K (I.epoch + 1) I.next (x29.body.take 300)).head) (slc (prt 0 (prt 0 (fa103 95)))), sB (sla (prt 1 (prt 0 (fa103 95)))) ((ckS K (I.epoch + 1) I.next (x29.body.take 300)).a) (slc (prt 1 (prt 0 (fa103 95)))), sB (sla (prt 2 (prt 0 (fa103 95)))) ((ckS K (I.epoch + 1) I.next (x29.body.take 300)).b) (slc (prt 2 (prt 0 (fa103 95)))), Ix ((ckS K (I.epoch + 1) I.next (x29.body.take 300)).power), Nx ((ckI I (x29.body.take 300)).epoch), Nx ((ckI I (x29.body.take 300)).next), sB (sla (prt 6 (prt 0 (fa103 95)))) ((x29.body.take 300)) (slc (prt 6 (prt 0 (fa103 95)))), sB none (ckI I (x29.body.take 300)).recs 0, Nx ((ckI I (x29.body.take 300)).size), .bool false] 56)]) (by rfl) ?_
      refine f_rebase (d := 3) j0 ?_
      refine f_rebase (d := 4) j1 ?_
      refine f_rebase (d := 5) j2 ?_
      refine f_rebase (d := 8) j3 ?_
      refine f_rebase (d := 9) j4 ?_
      refine f_rebase (d := 15) j5 ?_
      refine f_rebase (d := 16) k7 ?_
      refine f_rebase (d := 17) k9 ?_
      refine f_rebase (d := 36) j6 ?_
      refine f_rebase (d := 37) j7 ?_
      refine f_rebase (d := 38) j8 ?_
      refine ftc ?_
      refine lv (v := .agg #[sB (sla (prt 0 (prt 0 (fa103 95)))) ((ckS K (I.epoch + 1) I.next (x29.body.take 300)).head) (slc (prt 0 (prt 0 (fa103 95)))), sB (sla (prt 1 (prt 0 (fa103 95)))) ((ckS K (I.epoch + 1) I.next (x29.body.take 300)).a) (slc (prt 1 (prt 0 (fa103 95)))), sB (sla (prt 2 (prt 0 (fa103 95)))) ((ckS K (I.epoch + 1) I.next (x29.body.take 300)).b) (slc (prt 2 (prt 0 (fa103 95)))), Ix ((ckS K (I.epoch + 1) I.next (x29.body.take 300)).power), Nx ((ckI I (x29.body.take 300)).epoch), Nx ((ckI I (x29.body.take 300)).next), sB (sla (prt 6 (prt 0 (fa103 95)))) ((x29.body.take 300)) (slc (prt 6 (prt 0 (fa103 95)))), sB none (ckI I (x29.body.take 300)).recs 0, Nx ((ckI I (x29.body.take 300)).size), .bool false]) (e_load tf154 rfl (k_pt 10 rfl rfl) rfl) ?_
      refine lu (m_store 4 tf154 (cs' := #[sB (sla (prt 0 (prt 0 (fa103 95)))) ((ckS K (I.epoch + 1) I.next (x29.body.take 300)).head) (slc (prt 0 (prt 0 (fa103 95)))), sB (sla (prt 1 (prt 0 (fa103 95)))) ((ckS K (I.epoch + 1) I.next (x29.body.take 300)).a) (slc (prt 1 (prt 0 (fa103 95)))), sB (sla (prt 2 (prt 0 (fa103 95)))) ((ckS K (I.epoch + 1) I.next (x29.body.take 300)).b) (slc (prt 2 (prt 0 (fa103 95)))), Ix ((ckS K (I.epoch + 1) I.next (x29.body.take 300)).power), Nx ((ckI I (x29.body.take 300)).epoch), Nx ((ckI I (x29.body.take 300)).next), sB (sla (prt 6 (prt 0 (fa103 95)))) ((x29.body.take 300)) (slc (prt 6 (prt 0 (fa103 95)))), sB none (ckI I (x29.body.take 300)).recs 0, Nx ((ckI I (x29.body.take 300)).size), .bool false]) rfl rfl rfl rfl rfl rfl rfl) ?_
      refine lnc ?_
      refine lv e_move ?_
      refine lv e_move ?_
      refine lv (v := .bool false) (e_neq (a := (0 : Int)) (b := (0 : Int)) rfl rfl) ?_
      refine lnf ?_
      refine c_no rfl ?_
      refine c_skip ?_
      refine f_block ?_
      refine f_pi [6, 7, 8, 9, 0, 1, 2, 3, 4, 5, 10] 11 rfl (by kernel_rfl) ?_
      refine f_seal (K := [rB (sla (prt 0 (prt 0 (fa103 95)))) ((ckS K (I.epoch + 1) I.next (x29.body.take 300)).head) (slc (prt 0 (prt 0 (fa103 95)))), rB (sla (prt 1 (prt 0 (fa103 95)))) ((ckS K (I.epoch + 1) I.next (x29.body.take 300)).a) (slc (prt 1 (prt 0 (fa103 95)))), rB (sla (prt 2 (prt 0 (fa103 95)))) ((ckS K (I.epoch + 1) I.next (x29.body.take 300)).b) (slc (prt 2 (prt 0 (fa103 95)))), rB (sla (prt 6 (prt 0 (fa103 95)))) ((x29.body.take 300)) (slc (prt 6 (prt 0 (fa103 95))))]) (F := memR (sB (sla (prt 0 (prt 0 (fa103 95)))) (ckS K (I.epoch + 1) I.next (x29.body.take 300)).head (slc (prt 0 (prt 0 (fa103 95))))) (sB (sla (prt 1 (prt 0 (fa103 95)))) (ckS K (I.epoch + 1) I.next (x29.body.take 300)).a (slc (prt 1 (prt 0 (fa103 95))))) (sB (sla (prt 2 (prt 0 (fa103 95)))) (ckS K (I.epoch + 1) I.next (x29.body.take 300)).b (slc (prt 2 (prt 0 (fa103 95))))) (sB (sla (prt 6 (prt 0 (fa103 95)))) (ckI I (x29.body.take 300)).state (slc (prt 6 (prt 0 (fa103 95))))) (sB none (ckI I (x29.body.take 300)).recs 0) (ckS K (I.epoch + 1) I.next (x29.body.take 300)) (ckI I (x29.body.take 300))) rfl (fun _ h => mem_ck h) ?_
      refine f_pi [5, 0, 1, 2, 3, 4, 6, 7] 8 rfl (by kernel_rfl) ?_
      refine f_seal (K := [pt b13 (.cells #[sB (sla (prt 0 (prt 0 (fa103 95)))) ((ckS K (I.epoch + 1) I.next (x29.body.take 300)).head) (slc (prt 0 (prt 0 (fa103 95)))), sB (sla (prt 1 (prt 0 (fa103 95)))) ((ckS K (I.epoch + 1) I.next (x29.body.take 300)).a) (slc (prt 1 (prt 0 (fa103 95)))), sB (sla (prt 2 (prt 0 (fa103 95)))) ((ckS K (I.epoch + 1) I.next (x29.body.take 300)).b) (slc (prt 2 (prt 0 (fa103 95)))), Ix ((ckS K (I.epoch + 1) I.next (x29.body.take 300)).power), Nx ((ckI I (x29.body.take 300)).epoch), Nx ((ckI I (x29.body.take 300)).next), sB (sla (prt 6 (prt 0 (fa103 95)))) ((x29.body.take 300)) (slc (prt 6 (prt 0 (fa103 95)))), sB none (ckI I (x29.body.take 300)).recs 0, Nx ((ckI I (x29.body.take 300)).size), .bool false] 56), memR (sB (sla (prt 0 (prt 0 (fa103 95)))) (ckS K (I.epoch + 1) I.next (x29.body.take 300)).head (slc (prt 0 (prt 0 (fa103 95))))) (sB (sla (prt 1 (prt 0 (fa103 95)))) (ckS K (I.epoch + 1) I.next (x29.body.take 300)).a (slc (prt 1 (prt 0 (fa103 95))))) (sB (sla (prt 2 (prt 0 (fa103 95)))) (ckS K (I.epoch + 1) I.next (x29.body.take 300)).b (slc (prt 2 (prt 0 (fa103 95))))) (sB (sla (prt 6 (prt 0 (fa103 95)))) (ckI I (x29.body.take 300)).state (slc (prt 6 (prt 0 (fa103 95))))) (sB none (ckI I (x29.body.take 300)).recs 0) (ckS K (I.epoch + 1) I.next (x29.body.take 300)) (ckI I (x29.body.take 300))]) (F := rjE b13 (ckS K (I.epoch + 1) I.next (x29.body.take 300)) (ckI I (x29.body.take 300)) false) rfl (fun _ h => ⟨_, _, _, _, _, _, _, _, _, _, h⟩) ?_
      refine f_pi [1, 2, 0, 3, 4, 5, 6] 7 rfl (by kernel_rfl) ?_
      refine f_mask [true, true, true, true, true, false, false] rfl ?_
      exact f_cut ⟨1, (ckS K (I.epoch + 1) I.next (x29.body.take 300)), (ckI I (x29.body.take 300)), Jn, ⟨rfl, rfl, rfl, rfl, rfl, rfl, rfl, rfl⟩, rfl, by omega, (hI2.sm (by omega)), fun _ => hI2, ⟨_, hI2.any⟩, fun h => by omega⟩
     have hI2 : ∃ i, Inv (ckS K (I.epoch + 1) I.next (x29.body.take 300)) i (k + 1) false := (hI.ck_no (by omega) (by simp; omega) hc).elim (fun h => ⟨_, h⟩) (fun h => ⟨_, h⟩)
     refine c_region ?_
     refine lv e_move ?_
     refine lv e_move ?_
     refine l_call rfl rfl rfl (cl0 (vs := [pp Jn 0, sB p43 ((x29.body.take 300)) c44]) tf103 rfl rfl) ?_
     intro w hw
     replace hw := hw.perm (L' := _ :: _ :: _ :: _ :: _ :: _ :: []) (by exact ((((((perm_front 3 rfl).trans (perm_front 3 rfl)).trans (perm_front 3 rfl)).trans (perm_front 3 rfl)).trans (perm_front 5 rfl)).trans (perm_front 5 rfl)))
     obtain ⟨β1, sb, kn, hw1, back⟩ := St.frame (L := [_, _]) (M := _ :: _ :: _ :: _ :: []) hw
     refine (checkp_fail β1 w Jn b1 K I (x29.body.take 300) (by simp; omega) hfit (by omega) hc _ (kn _ (Knows.of_res 0 rfl (Sl.mono U8R _ _) fun _ h => lent_sl h)) hw1).mono ?_
     rintro e w' ⟨rfl, hw'⟩
     refine ⟨_, rfl, _, back _ _ hw', ?_⟩
     clear hw hw1 hw' back kn sb
     refine lv e_assign ?_
     refine lnf ?_
     refine c_seq ?_
     refine c_any [⟨[], [], [0], [92], fun f => f 92 = .agg #[sB pH19 K.head cH22, sB pA20 K.a cA23, sB pB21 K.b cB24, Ix (K.power), Nx (I.epoch), Nx (I.next), sB ps25 I.state cs26, sB pr27 I.recs cr28, Nx (I.size), .bool false]⟩, ⟨[], [], [1], [93], fun f => f 93 = .agg #[Bx (x29.kind), Bx (x29.power), sB a37 x29.body (c38)]⟩, ⟨[1], [1], [], [94], fun f => f 94 = sB a37 (x29.body.take 300) (c38)⟩, ⟨[0, 1, 2], [0, 2], [], [95], fun f => f 95 = .tuple #[.agg #[sB (sla (prt 0 (prt 0 (f 95)))) ((ckS K (I.epoch + 1) I.next (x29.body.take 300)).head) (slc (prt 0 (prt 0 (f 95)))), sB (sla (prt 1 (prt 0 (f 95)))) ((ckS K (I.epoch + 1) I.next (x29.body.take 300)).a) (slc (prt 1 (prt 0 (f 95)))), sB (sla (prt 2 (prt 0 (f 95)))) ((ckS K (I.epoch + 1) I.next (x29.body.take 300)).b) (slc (prt 2 (prt 0 (f 95)))), Ix ((ckS K (I.epoch + 1) I.next (x29.body.take 300)).power), Nx (I.epoch), Nx (I.next), sB ps25 I.state cs26, sB pr27 I.recs cr28, Nx (I.size), .bool true], .int .i64 (310)]⟩, ⟨[0, 1, 2, 3], [3], [], [91, 95], fun f => f 91 = .tuple #[.agg #[sB (sla (prt 0 (prt 0 (f 95)))) ((ckS K (I.epoch + 1) I.next (x29.body.take 300)).head) (slc (prt 0 (prt 0 (f 95)))), sB (sla (prt 1 (prt 0 (f 95)))) ((ckS K (I.epoch + 1) I.next (x29.body.take 300)).a) (slc (prt 1 (prt 0 (f 95)))), sB (sla (prt 2 (prt 0 (f 95)))) ((ckS K (I.epoch + 1) I.next (x29.body.take 300)).b) (slc (prt 2 (prt 0 (f 95)))), Ix ((ckS K (I.epoch + 1) I.next (x29.body.take 300)).power), Nx (I.epoch), Nx (I.next), sB ps25 I.state cs26, sB pr27 I.recs cr28, Nx (I.size), .bool true], .int .i64 (310)]⟩, ⟨[0, 1, 2, 3, 4], [4], [], [95, 96], fun f => f 96 = .agg #[sB (sla (prt 0 (prt 0 (f 95)))) ((ckS K (I.epoch + 1) I.next (x29.body.take 300)).head) (slc (prt 0 (prt 0 (f 95)))), sB (sla (prt 1 (prt 0 (f 95)))) ((ckS K (I.epoch + 1) I.next (x29.body.take 300)).a) (slc (prt 1 (prt 0 (f 95)))), sB (sla (prt 2 (prt 0 (f 95)))) ((ckS K (I.epoch + 1) I.next (x29.body.take 300)).b) (slc (prt 2 (prt 0 (f 95)))), Ix ((ckS K (I.epoch + 1) I.next (x29.body.take 300)).power), Nx (I.epoch), Nx (I.next), sB ps25 I.state cs26, sB pr27 I.recs cr28, Nx (I.size), .bool true]⟩, ⟨[0, 1, 2, 3, 4], [4], [], [97], fun f => f 97 = .int .i64 (310)⟩, ⟨[], [], [], [16], fun f => f 16 = .pointer (some ⟨(blk (f 16)), 0, none⟩)⟩, ⟨[0, 1, 2, 3, 4, 5, 7], [7, 5], [], [], fun _ => True⟩, ⟨(List.range 9), [6], [], [17], fun f => f 17 = .int .i64 (310)⟩] [⟨none, none, [], [], fun _ => jourR Jn b1 I true⟩, ⟨none, none, [], [], fun _ => storeR b1 (ckS K (I.epoch + 1) I.next (x29.body.take 300))⟩, ⟨none, none, [], [], fun _ => rB p43 (lentX (x29.body.take 300)) c44⟩, ⟨none, none, [1], [], fun _ => pt b42 (.cells #[Bx (x29.kind), Bx (x29.power), sB a37 x29.body (c38)] 47)⟩, ⟨none, none, [0], [], fun _ => pt b13 (.cells #[sB pH19 K.head cH22, sB pA20 K.a cA23, sB pB21 K.b cB24, Ix (K.power), Nx (I.epoch), Nx (I.next), sB ps25 I.state cs26, sB pr27 I.recs cr28, Nx (I.size), .bool false] 56)⟩, ⟨none, none, [3], [], fun _ => memV pH19 pA20 pB21 ps25 pr27 cH22 cA23 cB24 cs26 cr28 us K I⟩, ⟨(some 3), none, [], [95], fun f => rB (sla (prt 0 (prt 0 (f 95)))) ((ckS K (I.epoch + 1) I.next (x29.body.take 300)).head) (slc (prt 0 (prt 0 (f 95))))⟩, ⟨(some 3), none, [], [95], fun f => rB (sla (prt 1 (prt 0 (f 95)))) ((ckS K (I.epoch + 1) I.next (x29.body.take 300)).a) (slc (prt 1 (prt 0 (f 95))))⟩, ⟨(some 3), none, [], [95], fun f => rB (sla (prt 2 (prt 0 (f 95)))) ((ckS K (I.epoch + 1) I.next (x29.body.take 300)).b) (slc (prt 2 (prt 0 (f 95))))⟩, ⟨(some 7), (some 8), [8], [16], fun f => pt (blk (f 16)) (.cells #[.slice none 0 0, .slice none 0 0, .slice none 0 0, .int .i64 (0), .int .i64 (0), .int .i64 (0), .slice none 0 0, .slice none 0 0, .int .i64 (0), .bool false] 56)⟩, ⟨(some 8), none, [], [16, 95], fun f => pt (blk (f 16)) (.cells #[sB (sla (prt 0 (prt 0 (f 95)))) ((ckS K (I.epoch + 1) I.next (x29.body.take 300)).head) (slc (prt 0 (prt 0 (f 95)))), sB (sla (prt 1 (prt 0 (f 95)))) ((ckS K (I.epoch + 1) I.next (x29.body.take 300)).a) (slc (prt 1 (prt 0 (f 95)))), sB (sla (prt 2 (prt 0 (f 95)))) ((ckS K (I.epoch + 1) I.next (x29.body.take 300)).b) (slc (prt 2 (prt 0 (f 95)))), Ix ((ckS K (I.epoch + 1) I.next (x29.body.take 300)).power), Nx (I.epoch), Nx (I.next), sB ps25 I.state cs26, sB pr27 I.recs cr28, Nx (I.size), .bool true] 56)⟩] [(5, pp b13 0), (8, pp b42 0), (3, pp b1 0), (4, pp Jn 0), (9, sB p43 ((x29.body.take 300)) c44), (15, .int .i64 (310)), (36, sB va zs14 (vc)), (37, Nx (zs14.length)), (38, Nx (k))] [2, 3, 0, 1, 4, 5, 6, 7, 8] [] (by kernel_rfl) (by kernel_rfl) (by kernel_rfl) (by kernel_rfl) rfl ⟨rfl, rfl, rfl, rfl, rfl, rfl, rfl, rfl, rfl, trivial⟩ ⟨?_, ?_, ?_, ?_, ?_, ?_, ?_, ?_, ?_, ?_, trivial⟩ ?_
     ·rintro f M - ⟨i0, -⟩
      exact obv (L' := pt b13 (.cells #[sB pH19 K.head cH22, sB pA20 K.a cA23, sB pB21 K.b cB24, Ix (K.power), Nx (I.epoch), Nx (I.next), sB ps25 I.state cs26, sB pr27 I.recs cr28, Nx (I.size), .bool false] 56) :: M) (up_cons (d := 5) rfl i0) rfl (e_load tf154 rfl (k_pt 0 rfl rfl) rfl) (perm_front 0 rfl) (by rfl)
     ·rintro f M - ⟨i0, -⟩
      exact obv (L' := pt b42 (.cells #[Bx (x29.kind), Bx (x29.power), sB a37 x29.body (c38)] 47) :: M) (up_cons (d := 8) rfl i0) rfl (e_load tf87 rfl (k_pt 0 rfl rfl) rfl) (perm_front 0 rfl) (by rfl)
     ·rintro f M ⟨k0, -⟩ -
      refine ob_start (L' := M) (by rfl) (up_cons (d := 93) rfl k0) ?_
      refine lcf (cl0 (vs := [.agg #[Bx (x29.kind), Bx (x29.power), sB a37 x29.body (c38)]]) tf100 rfl rfl) rfl fun w β1 sb kn hw1 back => (body_ok β1 w hw1 x29 a37 c38 (by omega) (by omega) (Elems.mono _ _ _ _ _ sb he41)).mono ?_
      rintro e w' ⟨rfl, hw'⟩
      refine ⟨_, rfl, _, back _ _ hw', ?_⟩
      clear hw1 hw' back kn sb
      refine l_nil ?_
      exact f_owes_d (up_cons (d := 93) rfl k0) rfl (List.Perm.refl _)
     ·rintro f M ⟨k0, k1, -⟩ -
      refine ob_start (L' := memV pH19 pA20 pB21 ps25 pr27 cH22 cA23 cB24 cs26 cr28 us K I :: M) (by rfl) (up_cons (d := 94) (up_cons (d := 92) rfl k0) k1) ?_
      refine lcf (cl0 (vs := [.agg #[sB pH19 K.head cH22, sB pA20 K.a cA23, sB pB21 K.b cB24, Ix (K.power), Nx (I.epoch), Nx (I.next), sB ps25 I.state cs26, sB pr27 I.recs cr28, Nx (I.size), .bool false], sB a37 (x29.body.take 300) (c38)]) tf170 rfl rfl) rfl fun w β1 sb kn hw1 back => (rckp_no2 β1 w hw1 K _ _ _ (kn _ (Knows.of_res 0 rfl (Sl.mono U8R _ _) fun _ h => h.1)) (kn _ (Knows.of_res 0 rfl (Sl.mono U8R _ _) fun _ h => h.2.1)) (kn _ (Knows.of_res 0 rfl (Sl.mono U8R _ _) fun _ h => h.2.2.1)) I ps25 pr27 cs26 cr28 (x29.body.take 300) _ (Sl.mono _ _ _ _ _ sb (⟨⟨_, _, rfl, by simp only [List.length_take]; omega, by omega, Elems.take 300 he41⟩⟩ : Sl U8R _ _ (x29.body.take 300))) hfit ⟨by omega, by omega, by omega, by omega⟩ (by simp; omega) (by omega) hc).mono ?_
      rintro e w' ⟨pH110, pA111, pB112, cH113, cA114, cB115, rfl, hw'⟩
      refine ⟨_, rfl, _, back _ _ hw', ?_⟩
      clear hw1 hw' back kn sb
      refine l_nil ?_
      exact f_owes_d (up_cons (d := 94) (up_cons (d := 92) rfl k0) k1) rfl ((((perm_front 2 rfl).trans (perm_front 2 rfl)).trans (perm_front 2 rfl)).trans (perm_front 3 rfl))
     ·rintro f M ⟨k0, -⟩ -
      have hs95 : f 95 = .tuple #[.agg #[sB (sla (prt 0 (prt 0 (f 95)))) ((ckS K (I.epoch + 1) I.next (x29.body.take 300)).head) (slc (prt 0 (prt 0 (f 95)))), sB (sla (prt 1 (prt 0 (f 95)))) ((ckS K (I.epoch + 1) I.next (x29.body.take 300)).a) (slc (prt 1 (prt 0 (f 95)))), sB (sla (prt 2 (prt 0 (f 95)))) ((ckS K (I.epoch + 1) I.next (x29.body.take 300)).b) (slc (prt 2 (prt 0 (f 95)))), Ix ((ckS K (I.epoch + 1) I.next (x29.body.take 300)).power), Nx (I.epoch), Nx (I.next), sB ps25 I.state cs26, sB pr27 I.recs cr28, Nx (I.size), .bool true], .int .i64 (310)] := k0
      exact ob0 (up_cons rfl hs95) rfl e_move (.refl _)
     ·rintro f M ⟨k0, -⟩ -
      have hs91 : f 91 = .tuple #[.agg #[sB (sla (prt 0 (prt 0 (f 95)))) ((ckS K (I.epoch + 1) I.next (x29.body.take 300)).head) (slc (prt 0 (prt 0 (f 95)))), sB (sla (prt 1 (prt 0 (f 95)))) ((ckS K (I.epoch + 1) I.next (x29.body.take 300)).a) (slc (prt 1 (prt 0 (f 95)))), sB (sla (prt 2 (prt 0 (f 95)))) ((ckS K (I.epoch + 1) I.next (x29.body.take 300)).b) (slc (prt 2 (prt 0 (f 95)))), Ix ((ckS K (I.epoch + 1) I.next (x29.body.take 300)).power), Nx (I.epoch), Nx (I.next), sB ps25 I.state cs26, sB pr27 I.recs cr28, Nx (I.size), .bool true], .int .i64 (310)] := k0
      exact ob0 (up_cons rfl hs91) rfl (e_extract (vs := #[.agg #[sB (sla (prt 0 (prt 0 (f 95)))) ((ckS K (I.epoch + 1) I.next (x29.body.take 300)).head) (slc (prt 0 (prt 0 (f 95)))), sB (sla (prt 1 (prt 0 (f 95)))) ((ckS K (I.epoch + 1) I.next (x29.body.take 300)).a) (slc (prt 1 (prt 0 (f 95)))), sB (sla (prt 2 (prt 0 (f 95)))) ((ckS K (I.epoch + 1) I.next (x29.body.take 300)).b) (slc (prt 2 (prt 0 (f 95)))), Ix ((ckS K (I.epoch + 1) I.next (x29.body.take 300)).power), Nx (I.epoch), Nx (I.next), sB ps25 I.state cs26, sB pr27 I.recs cr28, Nx (I.size), .bool true], .int .i64 (310)]) rfl rfl) (.refl _)
     ·rintro f M ⟨k0, -⟩ -
      have hs91 : f 91 = .tuple #[.agg #[sB (sla (prt 0 (prt 0 (f 95)))) ((ckS K (I.epoch + 1) I.next (x29.body.take 300)).head) (slc (prt 0 (prt 0 (f 95)))), sB (sla (prt 1 (prt 0 (f 95)))) ((ckS K (I.epoch + 1) I.next (x29.body.take 300)).a) (slc (prt 1 (prt 0 (f 95)))), sB (sla (prt 2 (prt 0 (f 95)))) ((ckS K (I.epoch + 1) I.next (x29.body.take 300)).b) (slc (prt 2 (prt 0 (f 95)))), Ix ((ckS K (I.epoch + 1) I.next (x29.body.take 300)).power), Nx (I.epoch), Nx (I.next), sB ps25 I.state cs26, sB pr27 I.recs cr28, Nx (I.size), .bool true], .int .i64 (310)] := k0
      exact ob0 (up_cons rfl hs91) rfl (e_extract (vs := #[.agg #[sB (sla (prt 0 (prt 0 (f 95)))) ((ckS K (I.epoch + 1) I.next (x29.body.take 300)).head) (slc (prt 0 (prt 0 (f 95)))), sB (sla (prt 1 (prt 0 (f 95)))) ((ckS K (I.epoch + 1) I.next (x29.body.take 300)).a) (slc (prt 1 (prt 0 (f 95)))), sB (sla (prt 2 (prt 0 (f 95)))) ((ckS K (I.epoch + 1) I.next (x29.body.take 300)).b) (slc (prt 2 (prt 0 (f 95)))), Ix ((ckS K (I.epoch + 1) I.next (x29.body.take 300)).power), Nx (I.epoch), Nx (I.next), sB ps25 I.state cs26, sB pr27 I.recs cr28, Nx (I.size), .bool true], .int .i64 (310)]) rfl rfl) (.refl _)
     ·rintro f M - -
      refine ob_start (L' := M) (by rfl) rfl ?_
      refine l_mv rfl rfl rfl (m_alloc tf151) ?_
      rintro _ _ ⟨b117, rfl, rfl⟩
      refine l_nil ?_
      exact f_owes_d rfl rfl (perm_front 0 rfl)
     ·rintro f M ⟨k0, k1, -⟩ -
      have hs16 : f 16 = .pointer (some ⟨(blk (f 16)), 0, none⟩) := k0
      have hs96 : f 96 = .agg #[sB (sla (prt 0 (prt 0 (f 95)))) ((ckS K (I.epoch + 1) I.next (x29.body.take 300)).head) (slc (prt 0 (prt 0 (f 95)))), sB (sla (prt 1 (prt 0 (f 95)))) ((ckS K (I.epoch + 1) I.next (x29.body.take 300)).a) (slc (prt 1 (prt 0 (f 95)))), sB (sla (prt 2 (prt 0 (f 95)))) ((ckS K (I.epoch + 1) I.next (x29.body.take 300)).b) (slc (prt 2 (prt 0 (f 95)))), Ix ((ckS K (I.epoch + 1) I.next (x29.body.take 300)).power), Nx (I.epoch), Nx (I.next), sB ps25 I.state cs26, sB pr27 I.recs cr28, Nx (I.size), .bool true] := k1
      refine ob_start (L' := pt (blk (f 16)) (.cells #[.slice none 0 0, .slice none 0 0, .slice none 0 0, .int .i64 (0), .int .i64 (0), .int .i64 (0), .slice none 0 0, .slice none 0 0, .int .i64 (0), .bool false] 56) :: M) (by rfl) (up_cons (up_cons rfl hs16) hs96) ?_
      refine lu (m_store 0 tf154 (cs' := #[sB (sla (prt 0 (prt 0 (f 95)))) ((ckS K (I.epoch + 1) I.next (x29.body.take 300)).head) (slc (prt 0 (prt 0 (f 95)))), sB (sla (prt 1 (prt 0 (f 95)))) ((ckS K (I.epoch + 1) I.next (x29.body.take 300)).a) (slc (prt 1 (prt 0 (f 95)))), sB (sla (prt 2 (prt 0 (f 95)))) ((ckS K (I.epoch + 1) I.next (x29.body.take 300)).b) (slc (prt 2 (prt 0 (f 95)))), Ix ((ckS K (I.epoch + 1) I.next (x29.body.take 300)).power), Nx (I.epoch), Nx (I.next), sB ps25 I.state cs26, sB pr27 I.recs cr28, Nx (I.size), .bool true]) rfl rfl rfl rfl rfl rfl rfl) ?_
      refine l_nil ?_
      exact f_owes_n (up_cons (up_cons rfl hs16) hs96) trivial (perm_front 0 rfl)
     ·rintro f M ⟨k0, -⟩ -
      exact ob0 (up_cons (d := 97) rfl k0) rfl e_assign (.refl _)
     rintro fa118 ⟨-, -, -, -, -, -, -, k7, -, k9, -⟩ ⟨j0, j1, j2, j3, j4, j5, j6, j7, j8, -⟩
     refine f_re (L' := [jourR Jn b1 I true, storeR b1 (ckS K (I.epoch + 1) I.next (x29.body.take 300)), rB p43 (lentX (x29.body.take 300)) c44, pt b42 (.cells #[Bx (x29.kind), Bx (x29.power), sB a37 x29.body (c38)] 47), pt b13 (.cells #[sB pH19 K.head cH22, sB pA20 K.a cA23, sB pB21 K.b cB24, Ix (K.power), Nx (I.epoch), Nx (I.next), sB ps25 I.state cs26, sB pr27 I.recs cr28, Nx (I.size), .bool false] 56), memV pH19 pA20 pB21 ps25 pr27 cH22 cA23 cB24 cs26 cr28 us K I, rB (sla (prt 0 (prt 0 (fa118 95)))) ((ckS K (I.epoch + 1) I.next (x29.body.take 300)).head) (slc (prt 0 (prt 0 (fa118 95)))), rB (sla (prt 1 (prt 0 (fa118 95)))) ((ckS K (I.epoch + 1) I.next (x29.body.take 300)).a) (slc (prt 1 (prt 0 (fa118 95)))), rB (sla (prt 2 (prt 0 (fa118 95)))) ((ckS K (I.epoch + 1) I.next (x29.body.take 300)).b) (slc (prt 2 (prt 0 (fa118 95)))), pt (blk (fa118 16)) (.cells #[sB (sla (prt 0 (prt 0 (fa118 95)))) ((ckS K (I.epoch + 1) I.next (x29.body.take 300)).head) (slc (prt 0 (prt 0 (fa118 95)))), sB (sla (prt 1 (prt 0 (fa118 95)))) ((ckS K (I.epoch + 1) I.next (x29.body.take 300)).a) (slc (prt 1 (prt 0 (fa118 95)))), sB (sla (prt 2 (prt 0 (fa118 95)))) ((ckS K (I.epoch + 1) I.next (x29.body.take 300)).b) (slc (prt 2 (prt 0 (fa118 95)))), Ix ((ckS K (I.epoch + 1) I.next (x29.body.take 300)).power), Nx (I.epoch), Nx (I.next), sB ps25 I.state cs26, sB pr27 I.recs cr28, Nx (I.size), .bool true] 56)]) (by rfl) ?_
     refine f_rebase (d := 3) j0 ?_
     refine f_rebase (d := 4) j1 ?_
     refine f_rebase (d := 5) j2 ?_
     refine f_rebase (d := 8) j3 ?_
     refine f_rebase (d := 9) j4 ?_
     refine f_rebase (d := 15) j5 ?_
     refine f_rebase (d := 16) k7 ?_
     refine f_rebase (d := 17) k9 ?_
     refine f_rebase (d := 36) j6 ?_
     refine f_rebase (d := 37) j7 ?_
     refine f_rebase (d := 38) j8 ?_
     refine ftc ?_
     refine lv (v := .agg #[sB (sla (prt 0 (prt 0 (fa118 95)))) ((ckS K (I.epoch + 1) I.next (x29.body.take 300)).head) (slc (prt 0 (prt 0 (fa118 95)))), sB (sla (prt 1 (prt 0 (fa118 95)))) ((ckS K (I.epoch + 1) I.next (x29.body.take 300)).a) (slc (prt 1 (prt 0 (fa118 95)))), sB (sla (prt 2 (prt 0 (fa118 95)))) ((ckS K (I.epoch + 1) I.next (x29.body.take 300)).b) (slc (prt 2 (prt 0 (fa118 95)))), Ix ((ckS K (I.epoch + 1) I.next (x29.body.take 300)).power), Nx (I.epoch), Nx (I.next), sB ps25 I.state cs26, sB pr27 I.recs cr28, Nx (I.size), .bool true]) (e_load tf154 rfl (k_pt 9 rfl rfl) rfl) ?_
     refine lu (m_store 4 tf154 (cs' := #[sB (sla (prt 0 (prt 0 (fa118 95)))) ((ckS K (I.epoch + 1) I.next (x29.body.take 300)).head) (slc (prt 0 (prt 0 (fa118 95)))), sB (sla (prt 1 (prt 0 (fa118 95)))) ((ckS K (I.epoch + 1) I.next (x29.body.take 300)).a) (slc (prt 1 (prt 0 (fa118 95)))), sB (sla (prt 2 (prt 0 (fa118 95)))) ((ckS K (I.epoch + 1) I.next (x29.body.take 300)).b) (slc (prt 2 (prt 0 (fa118 95)))), Ix ((ckS K (I.epoch + 1) I.next (x29.body.take 300)).power), Nx (I.epoch), Nx (I.next), sB ps25 I.state cs26, sB pr27 I.recs cr28, Nx (I.size), .bool true]) rfl rfl rfl rfl rfl rfl rfl) ?_
     refine lnc ?_
     refine lv e_move ?_
     refine lv e_move ?_
     refine lv (v := .bool false) (e_neq (a := (310 : Int)) (b := (310 : Int)) rfl rfl) ?_
     refine lnf ?_
     refine c_no rfl ?_
     refine c_skip ?_
     refine f_block ?_
     refine f_pi [6, 7, 8, 5, 0, 1, 2, 3, 4, 9] 10 rfl (by kernel_rfl) ?_
     refine f_seal (K := [rB (sla (prt 0 (prt 0 (fa118 95)))) ((ckS K (I.epoch + 1) I.next (x29.body.take 300)).head) (slc (prt 0 (prt 0 (fa118 95)))), rB (sla (prt 1 (prt 0 (fa118 95)))) ((ckS K (I.epoch + 1) I.next (x29.body.take 300)).a) (slc (prt 1 (prt 0 (fa118 95)))), rB (sla (prt 2 (prt 0 (fa118 95)))) ((ckS K (I.epoch + 1) I.next (x29.body.take 300)).b) (slc (prt 2 (prt 0 (fa118 95)))), memV pH19 pA20 pB21 ps25 pr27 cH22 cA23 cB24 cs26 cr28 us K I]) (F := memR (sB (sla (prt 0 (prt 0 (fa118 95)))) (ckS K (I.epoch + 1) I.next (x29.body.take 300)).head (slc (prt 0 (prt 0 (fa118 95))))) (sB (sla (prt 1 (prt 0 (fa118 95)))) (ckS K (I.epoch + 1) I.next (x29.body.take 300)).a (slc (prt 1 (prt 0 (fa118 95))))) (sB (sla (prt 2 (prt 0 (fa118 95)))) (ckS K (I.epoch + 1) I.next (x29.body.take 300)).b (slc (prt 2 (prt 0 (fa118 95))))) (sB ps25 I.state cs26) (sB pr27 I.recs cr28) (ckS K (I.epoch + 1) I.next (x29.body.take 300)) I) rfl (fun _ h => mem_fail h) ?_
     refine f_pi [5, 0, 1, 2, 3, 4, 6] 7 rfl (by kernel_rfl) ?_
     refine f_seal (K := [pt b13 (.cells #[sB (sla (prt 0 (prt 0 (fa118 95)))) ((ckS K (I.epoch + 1) I.next (x29.body.take 300)).head) (slc (prt 0 (prt 0 (fa118 95)))), sB (sla (prt 1 (prt 0 (fa118 95)))) ((ckS K (I.epoch + 1) I.next (x29.body.take 300)).a) (slc (prt 1 (prt 0 (fa118 95)))), sB (sla (prt 2 (prt 0 (fa118 95)))) ((ckS K (I.epoch + 1) I.next (x29.body.take 300)).b) (slc (prt 2 (prt 0 (fa118 95)))), Ix ((ckS K (I.epoch + 1) I.next (x29.body.take 300)).power), Nx (I.epoch), Nx (I.next), sB ps25 I.state cs26, sB pr27 I.recs cr28, Nx (I.size), .bool true] 56), memR (sB (sla (prt 0 (prt 0 (fa118 95)))) (ckS K (I.epoch + 1) I.next (x29.body.take 300)).head (slc (prt 0 (prt 0 (fa118 95))))) (sB (sla (prt 1 (prt 0 (fa118 95)))) (ckS K (I.epoch + 1) I.next (x29.body.take 300)).a (slc (prt 1 (prt 0 (fa118 95))))) (sB (sla (prt 2 (prt 0 (fa118 95)))) (ckS K (I.epoch + 1) I.next (x29.body.take 300)).b (slc (prt 2 (prt 0 (fa118 95))))) (sB ps25 I.state cs26) (sB pr27 I.recs cr28) (ckS K (I.epoch + 1) I.next (x29.body.take 300)) I]) (F := rjE b13 (ckS K (I.epoch + 1) I.next (x29.body.take 300)) I true) rfl (fun _ h => ⟨_, _, _, _, _, _, _, _, _, _, h⟩) ?_
     refine f_pi [1, 2, 0, 3, 4, 5] 6 rfl (by kernel_rfl) ?_
     refine f_mask [true, true, true, true, true, false] rfl ?_
     exact f_cut ⟨2, (ckS K (I.epoch + 1) I.next (x29.body.take 300)), I, Jn, ⟨rfl, rfl, rfl, rfl, rfl, rfl, rfl, rfl⟩, rfl, by omega, hS, fun h => by omega, hI2, fun h => by omega⟩
    refine rebase (d := 4) (v := pp Jn 0) rfl ?_
    refine c_re (L' := [rB p43 (lentX (x29.body.take 300)) c44, pt b42 (.cells #[Bx (x29.kind), Bx (x29.power), sB a37 x29.body (c38)] 47), pt b13 (.cells #[sB pH19 K.head cH22, sB pA20 K.a cA23, sB pB21 K.b cB24, Ix (K.power), Nx (I.epoch), Nx (I.next), sB ps25 I.state cs26, sB pr27 I.recs cr28, Nx (I.size), .bool true] 56), memV pH19 pA20 pB21 ps25 pr27 cH22 cA23 cB24 cs26 cr28 us K I, jourR Jn b1 I true, storeR b1 K]) (by rfl) ?_
    refine c_region ?_
    refine lv e_move ?_
    refine lv (v := .bool false) (e_eql_pnil (p := some (⟨Jn, 0, none⟩)) rfl rfl tf36) ?_
    refine lnf ?_
    refine c_no rfl ?_
    refine csk ?_
    refine csr ?_
    refine lv e_move ?_
    refine lv e_move ?_
    refine l_call rfl rfl rfl (cl0 (vs := [pp Jn 0, sB p43 ((x29.body.take 300)) c44]) tf103 rfl rfl) ?_
    intro w hw
    replace hw := hw.perm (L' := _ :: _ :: _ :: _ :: _ :: _ :: []) (by exact ((((((perm_front 5 rfl).trans (perm_front 4 rfl)).trans (perm_front 4 rfl)).trans (perm_front 4 rfl)).trans (perm_front 4 rfl)).trans (perm_front 5 rfl)))
    obtain ⟨β1, sb, kn, hw1, back⟩ := St.frame (L := [_]) (M := _ :: _ :: _ :: _ :: _ :: []) hw
    refine (checkp_down β1 w Jn b1 K I (x29.body.take 300) (by simp; omega) _ (kn _ (Knows.of_res 0 rfl (Sl.mono U8R _ _) fun _ h => lent_sl h)) hw1).mono ?_
    rintro e w' ⟨rfl, hw'⟩
    refine ⟨_, rfl, _, back _ _ hw', ?_⟩
    clear hw hw1 hw' back kn sb
    refine lv e_assign ?_
    refine lnf ?_
    refine c_seq ?_
    refine c_any [⟨[], [], [0], [92], fun f => f 92 = .agg #[sB pH19 K.head cH22, sB pA20 K.a cA23, sB pB21 K.b cB24, Ix (K.power), Nx (I.epoch), Nx (I.next), sB ps25 I.state cs26, sB pr27 I.recs cr28, Nx (I.size), .bool true]⟩, ⟨[], [], [1], [93], fun f => f 93 = .agg #[Bx (x29.kind), Bx (x29.power), sB a37 x29.body (c38)]⟩, ⟨[1], [1], [], [94], fun f => f 94 = sB a37 (x29.body.take 300) (c38)⟩, ⟨[0, 1, 2], [0, 2], [], [95], fun f => f 95 = .tuple #[.agg #[sB pH19 K.head cH22, sB pA20 K.a cA23, sB pB21 K.b cB24, Ix (K.power), Nx (I.epoch), Nx (I.next), sB ps25 I.state cs26, sB pr27 I.recs cr28, Nx (I.size), .bool true], .int .i64 (310)]⟩, ⟨[0, 1, 2, 3], [3], [], [91], fun f => f 91 = .tuple #[.agg #[sB pH19 K.head cH22, sB pA20 K.a cA23, sB pB21 K.b cB24, Ix (K.power), Nx (I.epoch), Nx (I.next), sB ps25 I.state cs26, sB pr27 I.recs cr28, Nx (I.size), .bool true], .int .i64 (310)]⟩, ⟨[0, 1, 2, 3, 4], [4], [], [96], fun f => f 96 = .agg #[sB pH19 K.head cH22, sB pA20 K.a cA23, sB pB21 K.b cB24, Ix (K.power), Nx (I.epoch), Nx (I.next), sB ps25 I.state cs26, sB pr27 I.recs cr28, Nx (I.size), .bool true]⟩, ⟨[0, 1, 2, 3, 4], [4], [], [97], fun f => f 97 = .int .i64 (310)⟩, ⟨[], [], [], [16], fun f => f 16 = .pointer (some ⟨(blk (f 16)), 0, none⟩)⟩, ⟨[0, 1, 2, 3, 4, 5, 7], [7, 5], [], [], fun _ => True⟩, ⟨(List.range 9), [6], [], [17], fun f => f 17 = .int .i64 (310)⟩] [⟨none, none, [], [], fun _ => jourR Jn b1 I true⟩, ⟨none, none, [], [], fun _ => rB p43 (lentX (x29.body.take 300)) c44⟩, ⟨none, none, [1], [], fun _ => pt b42 (.cells #[Bx (x29.kind), Bx (x29.power), sB a37 x29.body (c38)] 47)⟩, ⟨none, none, [0], [], fun _ => pt b13 (.cells #[sB pH19 K.head cH22, sB pA20 K.a cA23, sB pB21 K.b cB24, Ix (K.power), Nx (I.epoch), Nx (I.next), sB ps25 I.state cs26, sB pr27 I.recs cr28, Nx (I.size), .bool true] 56)⟩, ⟨none, none, [3], [], fun _ => memV pH19 pA20 pB21 ps25 pr27 cH22 cA23 cB24 cs26 cr28 us K I⟩, ⟨none, none, [], [], fun _ => storeR b1 K⟩, ⟨(some 7), (some 8), [8], [16], fun f => pt (blk (f 16)) (.cells #[.slice none 0 0, .slice none 0 0, .slice none 0 0, .int .i64 (0), .int .i64 (0), .int .i64 (0), .slice none 0 0, .slice none 0 0, .int .i64 (0), .bool false] 56)⟩, ⟨(some 8), none, [], [16], fun f => pt (blk (f 16)) (.cells #[sB pH19 K.head cH22, sB pA20 K.a cA23, sB pB21 K.b cB24, Ix (K.power), Nx (I.epoch), Nx (I.next), sB ps25 I.state cs26, sB pr27 I.recs cr28, Nx (I.size), .bool true] 56)⟩] [(5, pp b13 0), (8, pp b42 0), (3, pp b1 0), (4, pp Jn 0), (9, sB p43 ((x29.body.take 300)) c44), (15, .int .i64 (310)), (36, sB va zs14 (vc)), (37, Nx (zs14.length)), (38, Nx (k))] [2, 3, 0, 1, 4, 5, 6, 7, 8] [] (by kernel_rfl) (by kernel_rfl) (by kernel_rfl) (by kernel_rfl) rfl ⟨rfl, rfl, rfl, rfl, rfl, rfl, rfl, rfl, rfl, trivial⟩ ⟨?_, ?_, ?_, ?_, ?_, ?_, ?_, ?_, ?_, ?_, trivial⟩ ?_
    ·rintro f M - ⟨i0, -⟩
     exact obv (L' := pt b13 (.cells #[sB pH19 K.head cH22, sB pA20 K.a cA23, sB pB21 K.b cB24, Ix (K.power), Nx (I.epoch), Nx (I.next), sB ps25 I.state cs26, sB pr27 I.recs cr28, Nx (I.size), .bool true] 56) :: M) (up_cons (d := 5) rfl i0) rfl (e_load tf154 rfl (k_pt 0 rfl rfl) rfl) (perm_front 0 rfl) (by rfl)
    ·rintro f M - ⟨i0, -⟩
     exact obv (L' := pt b42 (.cells #[Bx (x29.kind), Bx (x29.power), sB a37 x29.body (c38)] 47) :: M) (up_cons (d := 8) rfl i0) rfl (e_load tf87 rfl (k_pt 0 rfl rfl) rfl) (perm_front 0 rfl) (by rfl)
    ·rintro f M ⟨k0, -⟩ -
     refine ob_start (L' := M) (by rfl) (up_cons (d := 93) rfl k0) ?_
     refine lcf (cl0 (vs := [.agg #[Bx (x29.kind), Bx (x29.power), sB a37 x29.body (c38)]]) tf100 rfl rfl) rfl fun w β1 sb kn hw1 back => (body_ok β1 w hw1 x29 a37 c38 (by omega) (by omega) (Elems.mono _ _ _ _ _ sb he41)).mono ?_
     rintro e w' ⟨rfl, hw'⟩
     refine ⟨_, rfl, _, back _ _ hw', ?_⟩
     clear hw1 hw' back kn sb
     refine l_nil ?_
     exact f_owes_d (up_cons (d := 93) rfl k0) rfl (List.Perm.refl _)
    ·rintro f M ⟨k0, k1, -⟩ -
     refine ob_start (L' := memV pH19 pA20 pB21 ps25 pr27 cH22 cA23 cB24 cs26 cr28 us K I :: M) (by rfl) (up_cons (d := 94) (up_cons (d := 92) rfl k0) k1) ?_
     refine lcf (cl0 (vs := [.agg #[sB pH19 K.head cH22, sB pA20 K.a cA23, sB pB21 K.b cB24, Ix (K.power), Nx (I.epoch), Nx (I.next), sB ps25 I.state cs26, sB pr27 I.recs cr28, Nx (I.size), .bool true], sB a37 (x29.body.take 300) (c38)]) tf170 rfl rfl) rfl fun w β1 sb kn hw1 back => (rckp_down β1 w hw1 K _ _ _ (kn _ (Knows.of_res 0 rfl (Sl.mono U8R _ _) fun _ h => h.1)) (kn _ (Knows.of_res 0 rfl (Sl.mono U8R _ _) fun _ h => h.2.1)) (kn _ (Knows.of_res 0 rfl (Sl.mono U8R _ _) fun _ h => h.2.2.1)) I ps25 pr27 cs26 cr28 (x29.body.take 300) _ (Sl.mono _ _ _ _ _ sb (⟨⟨_, _, rfl, by simp only [List.length_take]; omega, by omega, Elems.take 300 he41⟩⟩ : Sl U8R _ _ (x29.body.take 300))) (by simp; omega)).mono ?_
     rintro e w' ⟨rfl, hw'⟩
     refine ⟨_, rfl, _, back _ _ hw', ?_⟩
     clear hw1 hw' back kn sb
     refine l_nil ?_
     exact f_owes_d (up_cons (d := 94) (up_cons (d := 92) rfl k0) k1) rfl (perm_front 0 rfl)
    ·rintro f M ⟨k0, -⟩ -
     exact ob0 (up_cons (d := 95) rfl k0) rfl e_move (.refl _)
    ·rintro f M ⟨k0, -⟩ -
     exact ob0 (up_cons (d := 91) rfl k0) rfl (e_extract (vs := #[.agg #[sB pH19 K.head cH22, sB pA20 K.a cA23, sB pB21 K.b cB24, Ix (K.power), Nx (I.epoch), Nx (I.next), sB ps25 I.state cs26, sB pr27 I.recs cr28, Nx (I.size), .bool true], .int .i64 (310)]) rfl rfl) (.refl _)
    ·rintro f M ⟨k0, -⟩ -
     exact ob0 (up_cons (d := 91) rfl k0) rfl (e_extract (vs := #[.agg #[sB pH19 K.head cH22, sB pA20 K.a cA23, sB pB21 K.b cB24, Ix (K.power), Nx (I.epoch), Nx (I.next), sB ps25 I.state cs26, sB pr27 I.recs cr28, Nx (I.size), .bool true], .int .i64 (310)]) rfl rfl) (.refl _)
    ·rintro f M - -
     refine ob_start (L' := M) (by rfl) rfl ?_
     refine l_mv rfl rfl rfl (m_alloc tf151) ?_
     rintro _ _ ⟨b120, rfl, rfl⟩
     refine l_nil ?_
     exact f_owes_d rfl rfl (perm_front 0 rfl)
    ·rintro f M ⟨k0, k1, -⟩ -
     have hs16 : f 16 = .pointer (some ⟨(blk (f 16)), 0, none⟩) := k0
     refine ob_start (L' := pt (blk (f 16)) (.cells #[.slice none 0 0, .slice none 0 0, .slice none 0 0, .int .i64 (0), .int .i64 (0), .int .i64 (0), .slice none 0 0, .slice none 0 0, .int .i64 (0), .bool false] 56) :: M) (by rfl) (up_cons (d := 96) (up_cons rfl hs16) k1) ?_
     refine lu (m_store 0 tf154 (cs' := #[sB pH19 K.head cH22, sB pA20 K.a cA23, sB pB21 K.b cB24, Ix (K.power), Nx (I.epoch), Nx (I.next), sB ps25 I.state cs26, sB pr27 I.recs cr28, Nx (I.size), .bool true]) rfl rfl rfl rfl rfl rfl rfl) ?_
     refine l_nil ?_
     exact f_owes_n (up_cons (d := 96) (up_cons rfl hs16) k1) trivial (perm_front 0 rfl)
    ·rintro f M ⟨k0, -⟩ -
     exact ob0 (up_cons (d := 97) rfl k0) rfl e_assign (.refl _)
    rintro fa121 ⟨-, -, -, -, -, -, -, k7, -, k9, -⟩ ⟨j0, j1, j2, j3, j4, j5, j6, j7, j8, -⟩
    refine f_re (L' := [jourR Jn b1 I true, rB p43 (lentX (x29.body.take 300)) c44, pt b42 (.cells #[Bx (x29.kind), Bx (x29.power), sB a37 x29.body (c38)] 47), pt b13 (.cells #[sB pH19 K.head cH22, sB pA20 K.a cA23, sB pB21 K.b cB24, Ix (K.power), Nx (I.epoch), Nx (I.next), sB ps25 I.state cs26, sB pr27 I.recs cr28, Nx (I.size), .bool true] 56), memV pH19 pA20 pB21 ps25 pr27 cH22 cA23 cB24 cs26 cr28 us K I, storeR b1 K, pt (blk (fa121 16)) (.cells #[sB pH19 K.head cH22, sB pA20 K.a cA23, sB pB21 K.b cB24, Ix (K.power), Nx (I.epoch), Nx (I.next), sB ps25 I.state cs26, sB pr27 I.recs cr28, Nx (I.size), .bool true] 56)]) (by rfl) ?_
    refine f_rebase (d := 3) j0 ?_
    refine f_rebase (d := 4) j1 ?_
    refine f_rebase (d := 5) j2 ?_
    refine f_rebase (d := 8) j3 ?_
    refine f_rebase (d := 9) j4 ?_
    refine f_rebase (d := 15) j5 ?_
    refine f_rebase (d := 16) k7 ?_
    refine f_rebase (d := 17) k9 ?_
    refine f_rebase (d := 36) j6 ?_
    refine f_rebase (d := 37) j7 ?_
    refine f_rebase (d := 38) j8 ?_
    refine ftc ?_
    refine lv (v := .agg #[sB pH19 K.head cH22, sB pA20 K.a cA23, sB pB21 K.b cB24, Ix (K.power), Nx (I.epoch), Nx (I.next), sB ps25 I.state cs26, sB pr27 I.recs cr28, Nx (I.size), .bool true]) (e_load tf154 rfl (k_pt 6 rfl rfl) rfl) ?_
    refine lu (m_store 3 tf154 (cs' := #[sB pH19 K.head cH22, sB pA20 K.a cA23, sB pB21 K.b cB24, Ix (K.power), Nx (I.epoch), Nx (I.next), sB ps25 I.state cs26, sB pr27 I.recs cr28, Nx (I.size), .bool true]) rfl rfl rfl rfl rfl rfl rfl) ?_
    refine lnc ?_
    refine lv e_move ?_
    refine lv e_move ?_
    refine lv (v := .bool false) (e_neq (a := (310 : Int)) (b := (310 : Int)) rfl rfl) ?_
    refine lnf ?_
    refine c_no rfl ?_
    refine c_skip ?_
    refine f_block ?_
    refine f_pi [3, 4, 0, 1, 2, 5, 6] 7 rfl (by kernel_rfl) ?_
    refine f_seal (K := [pt b13 (.cells #[sB pH19 K.head cH22, sB pA20 K.a cA23, sB pB21 K.b cB24, Ix (K.power), Nx (I.epoch), Nx (I.next), sB ps25 I.state cs26, sB pr27 I.recs cr28, Nx (I.size), .bool true] 56), memV pH19 pA20 pB21 ps25 pr27 cH22 cA23 cB24 cs26 cr28 us K I]) (F := rjE b13 K I true) rfl (fun _ h => ⟨_, _, _, _, _, _, _, _, _, _, sat_UR h⟩) ?_
    refine f_pi [1, 4, 0, 2, 3, 5] 6 rfl (by kernel_rfl) ?_
    refine f_mask [true, true, true, true, true, false] rfl ?_
    exact f_cut ⟨2, K, I, Jn, ⟨rfl, rfl, rfl, rfl, rfl, rfl, rfl, rfl⟩, rfl, by omega, hS, fun h => by omega, ⟨ix, hIx.mono (by omega)⟩, fun h => by omega⟩
   refine csr ?_
   refine lv (e_eql (a := ((x29.kind.toNat % 5 : Nat) : Int)) (b := (3 : Int)) rfl rfl) ?_
   refine lv e_assign ?_
   refine lnf ?_
   refine c_if (((x29.kind.toNat % 5 : Nat) : Int) = (3 : Int)) rfl (fun hc122 => ?_) (fun hc122 => ?_)
   ·refine c_seq ?_
    refine c_pi [5, 0, 1, 2, 3, 4] 6 rfl (by kernel_rfl) ?_
    refine c_openStore rfl (fun pH123 pA124 pB125 cH126 cA127 cB128 => ?_)
    refine c_rowcap 1 rfl (fun hcl129 hcm130 => ?_)
    refine c_rowcap 2 rfl (fun hcl131 hcm132 => ?_)
    refine c_rowcap 3 rfl (fun hcl133 hcm134 => ?_)
    refine c_region ?_
    refine lv e_move ?_
    refine lv (v := .agg #[Bx (x29.kind), Bx (x29.power), sB a37 x29.body (c38)]) (e_load tf87 rfl (k_pt 5 rfl rfl) rfl) ?_
    refine lcf (cl0 (vs := [.agg #[Bx (x29.kind), Bx (x29.power), sB a37 x29.body (c38)]]) tf110 rfl rfl) rfl fun w β1 sb kn hw1 back => (power_ok β1 w hw1 x29 a37 c38 (by omega) (by omega) (Elems.mono _ _ _ _ _ sb he41)).mono ?_
    rintro e w' ⟨rfl, hw'⟩
    refine ⟨_, rfl, _, back _ _ hw', ?_⟩
    clear hw1 hw' back kn sb
    refine lv (v := pp b1 0) (e_nil (a := ⟨b1, 0, none⟩) rfl) ?_
    refine lv (e_fieldPt rfl tf24) ?_
    refine lu (m_store 0 tf25 (cs' := #[sB pH123 K.head cH126, sB pA124 K.a cA127, sB pB125 K.b cB128, Ix (powerF x29)]) rfl rfl rfl rfl rfl rfl rfl) ?_
    refine lnr ?_
    refine lv e_move ?_
    refine lv (v := pp b1 0) (e_nil (a := ⟨b1, 0, none⟩) rfl) ?_
    refine lv (e_fieldPt rfl tf24) ?_
    refine lv (v := Ix (powerF x29)) (e_load1 tf25 rfl (k_pt 0 rfl rfl)) ?_
    refine lv (e_fieldPt rfl tf158) ?_
    refine lv (e_fieldPt rfl tf24) ?_
    refine lu (m_store 6 tf25 (cs' := #[sB pH19 K.head cH22, sB pA20 K.a cA23, sB pB21 K.b cB24, Ix (powerF x29), Nx (I.epoch), Nx (I.next), sB ps25 I.state cs26, sB pr27 I.recs cr28, Nx (I.size), .bool (dnB md)]) rfl rfl rfl rfl rfl rfl rfl) ?_
    refine l_nil ?_
    refine f_block ?_
    refine f_closeStore (S := b1) (k := ({ K with power := powerF x29 } : KS)) (pH := pH123) (pA := pA124) (pB := pB125) (cH := cH126) (cA := cA127) (cB := cB128) (M := (rB p43 (lentX (x29.body.take 300)) c44 :: pt b42 (.cells #[Bx (x29.kind), Bx (x29.power), sB a37 x29.body (c38)] 47) :: pt b13 (.cells #[sB pH19 K.head cH22, sB pA20 K.a cA23, sB pB21 K.b cB24, Ix (powerF x29), Nx (I.epoch), Nx (I.next), sB ps25 I.state cs26, sB pr27 I.recs cr28, Nx (I.size), .bool (dnB md)] 56) :: memV pH19 pA20 pB21 ps25 pr27 cH22 cA23 cB24 cs26 cr28 us K I :: jm md Jn b1 I :: [])) rfl ?_
    refine f_re (L' := [storeR b1 ({ K with power := powerF x29 } : KS), rB p43 (lentX (x29.body.take 300)) c44, pt b42 (.cells #[Bx (x29.kind), Bx (x29.power), sB a37 x29.body (c38)] 47), pt b13 (.cells #[sB pH19 K.head cH22, sB pA20 K.a cA23, sB pB21 K.b cB24, Ix (powerF x29), Nx (I.epoch), Nx (I.next), sB ps25 I.state cs26, sB pr27 I.recs cr28, Nx (I.size), .bool (dnB md)] 56), memV pH19 pA20 pB21 ps25 pr27 cH22 cA23 cB24 cs26 cr28 us ({ K with power := powerF x29 } : KS) I, jm md Jn b1 I]) (by rfl) ?_
    refine f_pi [3, 4, 0, 1, 2, 5] 6 rfl (by kernel_rfl) ?_
    refine f_seal (K := [pt b13 (.cells #[sB pH19 K.head cH22, sB pA20 K.a cA23, sB pB21 K.b cB24, Ix (powerF x29), Nx (I.epoch), Nx (I.next), sB ps25 I.state cs26, sB pr27 I.recs cr28, Nx (I.size), .bool (dnB md)] 56), memV pH19 pA20 pB21 ps25 pr27 cH22 cA23 cB24 cs26 cr28 us ({ K with power := powerF x29 } : KS) I]) (F := rjE b13 ({ K with power := powerF x29 } : KS) I (dnB md)) rfl (fun _ h => ⟨_, _, _, _, _, _, _, _, _, _, sat_UR h⟩) ?_
    refine f_pi [4, 1, 0, 2, 3] 5 rfl (by kernel_rfl) ?_
    refine f_mask [true, true, true, true, true] rfl ?_
    exact f_cut ⟨md, ({ K with power := powerF x29 } : KS), I, Jn, ⟨rfl, rfl, rfl, rfl, rfl, rfl, rfl, rfl⟩, rfl, by omega, hS, fun h => ((hI1 h).pow (powerF_ge _) (powerF_le _)).mono (by omega), ⟨ix, (hIx.pow (powerF_ge _) (powerF_le _)).mono (by omega)⟩, hz0⟩
   refine c_seq ?_
   by_cases hcut : cutOk (K.area ix.epoch) K.power ix.size
   ·refine c_mask [true, true, true, false, false, true] rfl ?_
    have hI2 := (hIx.cut_ok hcut).mono (show k ≤ k + 1 by omega)
    refine c_region ?_
    refine lv e_move ?_
    refine l_call rfl rfl rfl (cl0 (vs := [pp b1 0]) tf167 rfl rfl) ?_
    intro w hw
    replace hw := hw.perm (L' := _ :: _ :: _ :: _ :: []) (by exact ((((perm_front 2 rfl).trans (perm_front 2 rfl)).trans (perm_front 2 rfl)).trans (perm_front 3 rfl)))
    obtain ⟨β1, sb, kn, hw1, back⟩ := St.frame (L := [_]) (M := _ :: _ :: _ :: []) hw
    refine (opened_ok β1 w b1 K hfit.1 (by have := hfit.2.1; omega) (by have := hfit.2.2.1; omega) (hIx.okP (by omega)) hfit.2.2.2 ix hIx.read hcut hw1).mono ?_
    rintro e w' ⟨J141, pH135, pA136, pB137, cH138, cA139, cB140, ps142, cs143, pr144, cr145, rfl, hw'⟩
    refine ⟨_, rfl, _, back _ _ hw', ?_⟩
    clear hw hw1 hw' back kn sb
    refine lv e_move ?_
    refine lv (v := pp J141 0) (e_extract (vs := #[pp J141 0, .agg #[sB pH135 ((cutS K ix.epoch ix.size).head) cH138, sB pA136 ((cutS K ix.epoch ix.size).a) cA139, sB pB137 ((cutS K ix.epoch ix.size).b) cB140, Ix ((cutS K ix.epoch ix.size).power), Nx (ix.epoch), Nx (ix.next), sB ps142 ix.state cs143, sB pr144 ix.recs cr145, Nx (ix.size), .bool false], .bool true]) rfl rfl) ?_
    refine lv (v := .agg #[sB pH135 ((cutS K ix.epoch ix.size).head) cH138, sB pA136 ((cutS K ix.epoch ix.size).a) cA139, sB pB137 ((cutS K ix.epoch ix.size).b) cB140, Ix ((cutS K ix.epoch ix.size).power), Nx (ix.epoch), Nx (ix.next), sB ps142 ix.state cs143, sB pr144 ix.recs cr145, Nx (ix.size), .bool false]) (e_extract (vs := #[pp J141 0, .agg #[sB pH135 ((cutS K ix.epoch ix.size).head) cH138, sB pA136 ((cutS K ix.epoch ix.size).a) cA139, sB pB137 ((cutS K ix.epoch ix.size).b) cB140, Ix ((cutS K ix.epoch ix.size).power), Nx (ix.epoch), Nx (ix.next), sB ps142 ix.state cs143, sB pr144 ix.recs cr145, Nx (ix.size), .bool false], .bool true]) rfl rfl) ?_
    refine lv (v := .bool true) (e_extract (vs := #[pp J141 0, .agg #[sB pH135 ((cutS K ix.epoch ix.size).head) cH138, sB pA136 ((cutS K ix.epoch ix.size).a) cA139, sB pB137 ((cutS K ix.epoch ix.size).b) cB140, Ix ((cutS K ix.epoch ix.size).power), Nx (ix.epoch), Nx (ix.next), sB ps142 ix.state cs143, sB pr144 ix.recs cr145, Nx (ix.size), .bool false], .bool true]) rfl rfl) ?_
    refine lv e_assign ?_
    refine lu (m_store 5 tf154 (cs' := #[sB pH135 ((cutS K ix.epoch ix.size).head) cH138, sB pA136 ((cutS K ix.epoch ix.size).a) cA139, sB pB137 ((cutS K ix.epoch ix.size).b) cB140, Ix ((cutS K ix.epoch ix.size).power), Nx (ix.epoch), Nx (ix.next), sB ps142 ix.state cs143, sB pr144 ix.recs cr145, Nx (ix.size), .bool false]) rfl rfl rfl rfl rfl rfl rfl) ?_
    refine lv e_assign ?_
    refine lnc ?_
    refine lv e_move ?_
    refine lv (v := .bool false) (e_not (a := true) rfl) ?_
    refine lnf ?_
    refine c_no rfl ?_
    refine c_skip ?_
    refine f_block ?_
    refine f_pi [5, 2, 0, 1, 3, 4] 6 rfl (by kernel_rfl) ?_
    refine f_seal (K := [pt b13 (.cells #[sB pH135 ((cutS K ix.epoch ix.size).head) cH138, sB pA136 ((cutS K ix.epoch ix.size).a) cA139, sB pB137 ((cutS K ix.epoch ix.size).b) cB140, Ix ((cutS K ix.epoch ix.size).power), Nx (ix.epoch), Nx (ix.next), sB ps142 ix.state cs143, sB pr144 ix.recs cr145, Nx (ix.size), .bool false] 56), memR (sB pH135 (cutS K ix.epoch ix.size).head cH138) (sB pA136 (cutS K ix.epoch ix.size).a cA139) (sB pB137 (cutS K ix.epoch ix.size).b cB140) (sB ps142 ix.state cs143) (sB pr144 ix.recs cr145) (cutS K ix.epoch ix.size) ix]) (F := rjE b13 (cutS K ix.epoch ix.size) ix false) rfl (fun _ h => ⟨_, _, _, _, _, _, _, _, _, _, h⟩) ?_
    refine f_pi [1, 2, 0, 3, 4] 5 rfl (by kernel_rfl) ?_
    refine f_mask [true, true, true, true, true] rfl ?_
    exact f_cut ⟨1, (cutS K ix.epoch ix.size), ix, J141, ⟨rfl, rfl, rfl, rfl, rfl, rfl, rfl, rfl⟩, rfl, by omega, (hI2.sm (by omega)), fun _ => hI2, ⟨_, hI2.any⟩, fun h => by omega⟩
   refine c_mask [true, true, true, false, false, true] rfl ?_
   refine c_region ?_
   refine lv e_move ?_
   refine l_call rfl rfl rfl (cl0 (vs := [pp b1 0]) tf167 rfl rfl) ?_
   intro w hw
   replace hw := hw.perm (L' := _ :: _ :: _ :: _ :: []) (by exact ((((perm_front 2 rfl).trans (perm_front 2 rfl)).trans (perm_front 2 rfl)).trans (perm_front 3 rfl)))
   obtain ⟨β1, sb, kn, hw1, back⟩ := St.frame (L := [_]) (M := _ :: _ :: _ :: []) hw
   refine (opened_pow β1 w b1 K hfit.1 (by have := hfit.2.1; omega) (by have := hfit.2.2.1; omega) (hIx.okP (by omega)) hfit.2.2.2 ix hIx.read hcut hw1).mono ?_
   rintro e w' ⟨pH146, pA147, pB148, cH149, cA150, cB151, rfl, hw'⟩
   refine ⟨_, rfl, _, back _ _ hw', ?_⟩
   clear hw hw1 hw' back kn sb
   refine lv e_move ?_
   refine lv (v := .pointer none) (e_extract (vs := #[.pointer none, .agg #[sB pH146 K.head cH149, sB pA147 K.a cA150, sB pB148 K.b cB151, Ix (K.power), Nx (zI.epoch), Nx (zI.next), sB none zI.state 0, sB none zI.recs 0, Nx (zI.size), .bool false], .bool true]) rfl rfl) ?_
   refine lv (v := .agg #[sB pH146 K.head cH149, sB pA147 K.a cA150, sB pB148 K.b cB151, Ix (K.power), Nx (zI.epoch), Nx (zI.next), sB none zI.state 0, sB none zI.recs 0, Nx (zI.size), .bool false]) (e_extract (vs := #[.pointer none, .agg #[sB pH146 K.head cH149, sB pA147 K.a cA150, sB pB148 K.b cB151, Ix (K.power), Nx (zI.epoch), Nx (zI.next), sB none zI.state 0, sB none zI.recs 0, Nx (zI.size), .bool false], .bool true]) rfl rfl) ?_
   refine lv (v := .bool true) (e_extract (vs := #[.pointer none, .agg #[sB pH146 K.head cH149, sB pA147 K.a cA150, sB pB148 K.b cB151, Ix (K.power), Nx (zI.epoch), Nx (zI.next), sB none zI.state 0, sB none zI.recs 0, Nx (zI.size), .bool false], .bool true]) rfl rfl) ?_
   refine lv e_assign ?_
   refine lu (m_store 4 tf154 (cs' := #[sB pH146 K.head cH149, sB pA147 K.a cA150, sB pB148 K.b cB151, Ix (K.power), Nx (zI.epoch), Nx (zI.next), sB none zI.state 0, sB none zI.recs 0, Nx (zI.size), .bool false]) rfl rfl rfl rfl rfl rfl rfl) ?_
   refine lv e_assign ?_
   refine lnc ?_
   refine lv e_move ?_
   refine lv (v := .bool false) (e_not (a := true) rfl) ?_
   refine lnf ?_
   refine c_no rfl ?_
   refine c_skip ?_
   refine f_block ?_
   refine f_emp (r := jm 0 0 b1 zI) trivial ?_
   refine f_pi [5, 2, 0, 1, 3, 4] 6 rfl (by kernel_rfl) ?_
   refine f_seal (K := [pt b13 (.cells #[sB pH146 K.head cH149, sB pA147 K.a cA150, sB pB148 K.b cB151, Ix (K.power), Nx (zI.epoch), Nx (zI.next), sB none zI.state 0, sB none zI.recs 0, Nx (zI.size), .bool false] 56), memR (sB pH146 K.head cH149) (sB pA147 K.a cA150) (sB pB148 K.b cB151) (sB none zI.state 0) (sB none zI.recs 0) K zI]) (F := rjE b13 K zI false) rfl (fun _ h => ⟨_, _, _, _, _, _, _, _, _, _, h⟩) ?_
   refine f_pi [1, 2, 0, 3, 4] 5 rfl (by kernel_rfl) ?_
   refine f_mask [true, true, true, true, true] rfl ?_
   exact f_cut ⟨0, K, zI, 0, ⟨rfl, rfl, rfl, rfl, rfl, rfl, rfl, rfl⟩, rfl, by omega, zI_sm, fun h => by omega, ⟨ix, hIx.mono (by omega)⟩, fun _ => rfl⟩
  rintro f0 L0 ⟨md2, K2, I2, Jn2, ⟨hs3, hs5, hs8, hs9, hs36, hs37, hs38, hs4⟩, hL, hmd2, hS2, hI12, hIx2, hz2⟩
  subst L0
  refine rebase (d := 3) hs3 ?_
  refine rebase (d := 5) hs5 ?_
  refine rebase (d := 8) hs8 ?_
  refine rebase (d := 9) hs9 ?_
  refine rebase (d := 36) hs36 ?_
  refine rebase (d := 37) hs37 ?_
  refine rebase (d := 38) hs38 ?_
  refine rebase (d := 4) hs4 ?_
  clear hs4 hs3 hs5 hs8 hs9 hs36 hs37 hs38
  refine c_pi [2, 0, 1, 3, 4] 5 rfl (by kernel_rfl) ?_
  refine c_openRj (B := b13) (k := K2) (i := I2) (dn := (dnB md2)) (M := (jm md2 Jn2 b1 I2 :: storeR b1 K2 :: rB p43 (lentX (x29.body.take 300)) c44 :: pt b42 (.cells #[Bx (x29.kind), Bx (x29.power), sB a37 x29.body (c38)] 47) :: [])) rfl (fun pH152 pA153 pB154 ps158 pr160 cH155 cA156 cB157 cs159 cr161 us hul hu1 hpr => ?_)
  rcases (show md2 = 0 ∨ md2 = 1 ∨ md2 = 2 from by omega) with rfl | rfl | rfl
  ·refine rebase (d := 4) (v := .pointer none) rfl ?_
   refine c_re (L' := [pt b13 (.cells #[sB pH152 K2.head cH155, sB pA153 K2.a cA156, sB pB154 K2.b cB157, Ix (K2.power), Nx (I2.epoch), Nx (I2.next), sB ps158 I2.state cs159, sB pr160 I2.recs cr161, Nx (I2.size), .bool false] 56), memV pH152 pA153 pB154 ps158 pr160 cH155 cA156 cB157 cs159 cr161 us K2 I2, jm 0 Jn2 b1 I2, storeR b1 K2, rB p43 (lentX (x29.body.take 300)) c44, pt b42 (.cells #[Bx (x29.kind), Bx (x29.power), sB a37 x29.body (c38)] 47)]) (by rfl) ?_
   refine cs2 ?_
   refine c_region ?_
   refine lv e_move ?_
   refine lv (v := .agg #[Bx (x29.kind), Bx (x29.power), sB a37 x29.body (c38)]) (e_load tf87 rfl (k_pt 5 rfl rfl) rfl) ?_
   refine lcf (cl0 (vs := [.agg #[Bx (x29.kind), Bx (x29.power), sB a37 x29.body (c38)]]) tf100 rfl rfl) rfl fun w β1 sb kn hw1 back => (body_ok β1 w hw1 x29 a37 c38 (by omega) (by omega) (Elems.mono _ _ _ _ _ sb he41)).mono ?_
   rintro e w' ⟨rfl, hw'⟩
   refine ⟨_, rfl, _, back _ _ hw', ?_⟩
   clear hw1 hw' back kn sb
   refine lcf (cl0 (vs := [sB p43 ((x29.body.take 300)) c44, sB a37 (x29.body.take 300) (c38)]) tf171 rfl rfl) rfl fun w β1 sb kn hw1 back => (keptb_ok β1 w hw1 (x29.body.take 300) p43 c44 _ (by first | omega | (simp; omega)) (kU kn 4 rfl) (Sl.mono _ _ _ _ _ sb (⟨⟨_, _, rfl, by simp only [List.length_take]; omega, by omega, Elems.take 300 he41⟩⟩ : Sl U8R _ _ (x29.body.take 300)))).mono ?_
   rintro e w' ⟨rfl, hw'⟩
   refine ⟨_, rfl, _, back _ _ hw', ?_⟩
   clear hw1 hw' back kn sb
   refine lv (v := .bool false) (e_not (a := true) rfl) ?_
   refine lnf ?_
   refine c_no rfl ?_
   refine csk ?_
   refine csr ?_
   refine lv e_move ?_
   refine l_call rfl rfl rfl (cl0 (vs := [sB p43 ((x29.body.take 300)) c44]) tf163 rfl rfl) ?_
   intro w hw
   replace hw := hw.perm (L' := _ :: _ :: _ :: _ :: _ :: _ :: []) (by exact ((((((perm_front 5 rfl).trans (perm_front 4 rfl)).trans (perm_front 4 rfl)).trans (perm_front 4 rfl)).trans (perm_front 4 rfl)).trans (perm_front 5 rfl)))
   obtain ⟨β1, sb, kn, hw1, back⟩ := St.frame (L := [_]) (M := _ :: _ :: _ :: _ :: _ :: []) hw
   replace hw1 := hw1.conseq (r' := shp [sB p43 ((x29.body.take 300)) c44]) fun _ h => row_shp_part h (by first | omega | (rw [lentX_len]; omega))
   refine (over_ok β1 w [sB p43 ((x29.body.take 300)) c44] (sB p43 ((x29.body.take 300)) c44) (List.mem_singleton.2 rfl) ⟨_, _, _, rfl, by first | omega | (simp only [List.length_take]; omega)⟩ hw1).mono ?_
   rintro e w' ⟨rfl, hw'⟩
   refine ⟨_, rfl, _, back _ _ hw', ?_⟩
   clear hw hw1 hw' back kn sb
   refine lnf ?_
   refine c_seq ?_
   refine c_pi [4, 0, 1, 2, 3, 5] 6 rfl (by kernel_rfl) ?_
   refine c_openStore rfl (fun pH162 pA163 pB164 cH165 cA166 cB167 => ?_)
   refine c_rowcap 1 rfl (fun hcl168 hcm169 => ?_)
   refine c_rowcap 2 rfl (fun hcl170 hcm171 => ?_)
   refine c_rowcap 3 rfl (fun hcl172 hcm173 => ?_)
   refine c_quiet (by kernel_rfl) (by kernel_rfl) ?_
   refine q_val (v := pp b1 0) rfl rfl rfl e_move ?_
   refine q_val (v := pp b1 0) rfl rfl rfl (e_nil (a := ⟨b1, 0, none⟩) rfl) ?_
   refine q_val (v := .agg #[sB pH162 K2.head cH165, sB pA163 K2.a cA166, sB pB164 K2.b cB167, Ix (K2.power)]) rfl rfl rfl (e_load tf56 rfl (k_pt 0 rfl rfl) rfl) ?_
   refine q_val (v := pp b13 0) rfl rfl rfl (e_fieldPt rfl tf158) ?_
   refine q_val (v := .agg #[sB pH152 K2.head cH155, sB pA153 K2.a cA156, sB pB154 K2.b cB157, Ix (K2.power)]) rfl rfl rfl (e_load tf56 rfl (k_pt 5 rfl rfl) rfl) ?_
   refine q_call (v := .bool true) rfl rfl rfl (cl0 (vs := [.agg #[sB pH162 K2.head cH165, sB pA163 K2.a cA166, sB pB164 K2.b cB167, Ix (K2.power)], .agg #[sB pH152 K2.head cH155, sB pA153 K2.a cA156, sB pB154 K2.b cB157, Ix (K2.power)]]) tf122 rfl rfl) (fun w hw => ?_) ?_
   ·obtain ⟨β1, sb, kn, hw1, back⟩ := St.frame_all hw
    exact (sames_ok β1 w hw1 K2 _ _ _ (kU kn 1 rfl) (kU kn 2 rfl) (kU kn 3 rfl) _ _ _ (kn _ (Knows.of_res 6 rfl (Sl.mono U8R _ _) fun _ h => h.1)) (kn _ (Knows.of_res 6 rfl (Sl.mono U8R _ _) fun _ h => h.2.1)) (kn _ (Knows.of_res 6 rfl (Sl.mono U8R _ _) fun _ h => h.2.2.1))).mono (fun e w' ⟨he, hw'⟩ => ⟨he, st_mask [true, true, true, true, true, true, true, true, true] rfl (back _ _ hw')⟩)
   refine q_val (v := .bool false) rfl rfl rfl (e_not (a := true) rfl) ?_
   refine q_val (v := .bool false) rfl rfl rfl e_move ?_
   refine qg_val (v := .pointer none) rfl rfl rfl rfl rfl e_move ?_
   refine qg_val (v := .bool false) rfl rfl rfl rfl rfl (e_neq_pnil (p := none) rfl rfl tf36) ?_
   refine qg_val (v := .bool false) rfl rfl rfl rfl rfl e_move ?_
   refine q_skip rfl rfl rfl rfl rfl rfl ?_
   refine q_skip rfl rfl rfl rfl rfl rfl ?_
   refine q_skip rfl rfl rfl rfl rfl rfl ?_
   refine q_skip rfl rfl rfl rfl rfl rfl ?_
   refine q_skip rfl rfl rfl rfl rfl rfl ?_
   refine qg_val (v := .bool false) rfl rfl rfl rfl rfl (e_pick_f rfl) ?_
   refine q_val (v := .bool false) rfl rfl rfl (e_pick_f rfl) ?_
   refine q_nil ?_
   refine f_then ?_
   refine c_no rfl ?_
   refine c_skip ?_
   refine f_block ?_
   refine f_then ?_
   refine c_pi [0, 1, 2, 3, 4, 5, 6, 7, 8] 9 rfl (by kernel_rfl) ?_
   refine c_closeStore (S := b1) (k := K2) (pH := pH162) (pA := pA163) (pB := pB164) (cH := cH165) (cA := cA166) (cB := cB167) (M := (shp [sB p43 ((x29.body.take 300)) c44] :: pt b13 (.cells #[sB pH152 K2.head cH155, sB pA153 K2.a cA156, sB pB154 K2.b cB157, Ix (K2.power), Nx (I2.epoch), Nx (I2.next), sB ps158 I2.state cs159, sB pr160 I2.recs cr161, Nx (I2.size), .bool false] 56) :: memV pH152 pA153 pB154 ps158 pr160 cH155 cA156 cB157 cs159 cr161 us K2 I2 :: jm 0 Jn2 b1 I2 :: pt b42 (.cells #[Bx (x29.kind), Bx (x29.power), sB a37 x29.body (c38)] 47) :: [])) rfl ?_
   refine c_pi [2, 3, 0, 1, 4, 5] 6 rfl (by kernel_rfl) ?_
   refine c_seal (K := [pt b13 (.cells #[sB pH152 K2.head cH155, sB pA153 K2.a cA156, sB pB154 K2.b cB157, Ix (K2.power), Nx (I2.epoch), Nx (I2.next), sB ps158 I2.state cs159, sB pr160 I2.recs cr161, Nx (I2.size), .bool false] 56), memV pH152 pA153 pB154 ps158 pr160 cH155 cA156 cB157 cs159 cr161 us K2 I2]) (F := rjE b13 K2 I2 false) rfl (fun _ h => ⟨_, _, _, _, _, _, _, _, _, _, sat_UR h⟩) ?_
   refine c_region ?_
   refine lv (v := Nx (k + 1)) (e_add (a := ((k : Nat) : Int)) (b := (1 : Int)) rfl rfl (i64n (by omega) (by omega))) ?_
   refine lv e_move ?_
   refine l_nil ?_
   refine f_perm (L' := [jm 0 Jn2 b1 I2, storeR b1 K2, rjE b13 K2 I2 false, shp [sB p43 ((x29.body.take 300)) c44], pt b42 (.cells #[Bx (x29.kind), Bx (x29.power), sB a37 x29.body (c38)] 47)]) (perm_ix [3, 1, 0, 2, 4] 5 rfl (by kernel_rfl) (by kernel_rfl)) ?_
   refine f_mask (L' := [jm 0 Jn2 b1 I2, storeR b1 K2, rjE b13 K2 I2 false]) [true, true, true, false, false] rfl ?_
   exact f_cut ⟨(k + 1, 0, K2, I2, Jn2), ⟨⟨rfl, rfl, rfl, rfl, rfl, rfl⟩, rfl, ⟨by omega, by omega, hS2, hI12, hIx2, hz2⟩⟩, (show zs14.length - (k + 1) < zs14.length - k from by omega)⟩
  ·refine rebase (d := 4) (v := pp Jn2 0) rfl ?_
   refine c_re (L' := [pt b13 (.cells #[sB pH152 K2.head cH155, sB pA153 K2.a cA156, sB pB154 K2.b cB157, Ix (K2.power), Nx (I2.epoch), Nx (I2.next), sB ps158 I2.state cs159, sB pr160 I2.recs cr161, Nx (I2.size), .bool false] 56), memV pH152 pA153 pB154 ps158 pr160 cH155 cA156 cB157 cs159 cr161 us K2 I2, jourR Jn2 b1 I2 false, storeR b1 K2, rB p43 (lentX (x29.body.take 300)) c44, pt b42 (.cells #[Bx (x29.kind), Bx (x29.power), sB a37 x29.body (c38)] 47)]) (by rfl) ?_
   refine cs2 ?_
   refine c_region ?_
   refine lv e_move ?_
   refine lv (v := .agg #[Bx (x29.kind), Bx (x29.power), sB a37 x29.body (c38)]) (e_load tf87 rfl (k_pt 5 rfl rfl) rfl) ?_
   refine lcf (cl0 (vs := [.agg #[Bx (x29.kind), Bx (x29.power), sB a37 x29.body (c38)]]) tf100 rfl rfl) rfl fun w β1 sb kn hw1 back => (body_ok β1 w hw1 x29 a37 c38 (by omega) (by omega) (Elems.mono _ _ _ _ _ sb he41)).mono ?_
   rintro e w' ⟨rfl, hw'⟩
   refine ⟨_, rfl, _, back _ _ hw', ?_⟩
   clear hw1 hw' back kn sb
   refine lcf (cl0 (vs := [sB p43 ((x29.body.take 300)) c44, sB a37 (x29.body.take 300) (c38)]) tf171 rfl rfl) rfl fun w β1 sb kn hw1 back => (keptb_ok β1 w hw1 (x29.body.take 300) p43 c44 _ (by first | omega | (simp; omega)) (kU kn 4 rfl) (Sl.mono _ _ _ _ _ sb (⟨⟨_, _, rfl, by simp only [List.length_take]; omega, by omega, Elems.take 300 he41⟩⟩ : Sl U8R _ _ (x29.body.take 300)))).mono ?_
   rintro e w' ⟨rfl, hw'⟩
   refine ⟨_, rfl, _, back _ _ hw', ?_⟩
   clear hw1 hw' back kn sb
   refine lv (v := .bool false) (e_not (a := true) rfl) ?_
   refine lnf ?_
   refine c_no rfl ?_
   refine csk ?_
   refine csr ?_
   refine lv e_move ?_
   refine l_call rfl rfl rfl (cl0 (vs := [sB p43 ((x29.body.take 300)) c44]) tf163 rfl rfl) ?_
   intro w hw
   replace hw := hw.perm (L' := _ :: _ :: _ :: _ :: _ :: _ :: []) (by exact ((((((perm_front 5 rfl).trans (perm_front 4 rfl)).trans (perm_front 4 rfl)).trans (perm_front 4 rfl)).trans (perm_front 4 rfl)).trans (perm_front 5 rfl)))
   obtain ⟨β1, sb, kn, hw1, back⟩ := St.frame (L := [_]) (M := _ :: _ :: _ :: _ :: _ :: []) hw
   replace hw1 := hw1.conseq (r' := shp [sB p43 ((x29.body.take 300)) c44]) fun _ h => row_shp_part h (by first | omega | (rw [lentX_len]; omega))
   refine (over_ok β1 w [sB p43 ((x29.body.take 300)) c44] (sB p43 ((x29.body.take 300)) c44) (List.mem_singleton.2 rfl) ⟨_, _, _, rfl, by first | omega | (simp only [List.length_take]; omega)⟩ hw1).mono ?_
   rintro e w' ⟨rfl, hw'⟩
   refine ⟨_, rfl, _, back _ _ hw', ?_⟩
   clear hw hw1 hw' back kn sb
   refine lnf ?_
   refine c_seq ?_
   refine c_pi [4, 0, 1, 2, 3, 5] 6 rfl (by kernel_rfl) ?_
   refine c_openStore rfl (fun pH174 pA175 pB176 cH177 cA178 cB179 => ?_)
   refine c_rowcap 1 rfl (fun hcl180 hcm181 => ?_)
   refine c_rowcap 2 rfl (fun hcl182 hcm183 => ?_)
   refine c_rowcap 3 rfl (fun hcl184 hcm185 => ?_)
   refine c_quiet (by kernel_rfl) (by kernel_rfl) ?_
   refine q_val (v := pp b1 0) rfl rfl rfl e_move ?_
   refine q_val (v := pp b1 0) rfl rfl rfl (e_nil (a := ⟨b1, 0, none⟩) rfl) ?_
   refine q_val (v := .agg #[sB pH174 K2.head cH177, sB pA175 K2.a cA178, sB pB176 K2.b cB179, Ix (K2.power)]) rfl rfl rfl (e_load tf56 rfl (k_pt 0 rfl rfl) rfl) ?_
   refine q_val (v := pp b13 0) rfl rfl rfl (e_fieldPt rfl tf158) ?_
   refine q_val (v := .agg #[sB pH152 K2.head cH155, sB pA153 K2.a cA156, sB pB154 K2.b cB157, Ix (K2.power)]) rfl rfl rfl (e_load tf56 rfl (k_pt 5 rfl rfl) rfl) ?_
   refine q_call (v := .bool true) rfl rfl rfl (cl0 (vs := [.agg #[sB pH174 K2.head cH177, sB pA175 K2.a cA178, sB pB176 K2.b cB179, Ix (K2.power)], .agg #[sB pH152 K2.head cH155, sB pA153 K2.a cA156, sB pB154 K2.b cB157, Ix (K2.power)]]) tf122 rfl rfl) (fun w hw => ?_) ?_
   ·obtain ⟨β1, sb, kn, hw1, back⟩ := St.frame_all hw
    exact (sames_ok β1 w hw1 K2 _ _ _ (kU kn 1 rfl) (kU kn 2 rfl) (kU kn 3 rfl) _ _ _ (kn _ (Knows.of_res 6 rfl (Sl.mono U8R _ _) fun _ h => h.1)) (kn _ (Knows.of_res 6 rfl (Sl.mono U8R _ _) fun _ h => h.2.1)) (kn _ (Knows.of_res 6 rfl (Sl.mono U8R _ _) fun _ h => h.2.2.1))).mono (fun e w' ⟨he, hw'⟩ => ⟨he, st_mask [true, true, true, true, true, true, true, true, true] rfl (back _ _ hw')⟩)
   refine q_val (v := .bool false) rfl rfl rfl (e_not (a := true) rfl) ?_
   refine q_val (v := .bool false) rfl rfl rfl e_move ?_
   refine qg_val (v := pp Jn2 0) rfl rfl rfl rfl rfl e_move ?_
   refine qg_val (v := .bool true) rfl rfl rfl rfl rfl (e_neq_pnil (p := some (⟨Jn2, 0, none⟩)) rfl rfl tf36) ?_
   refine qg_val (v := .bool true) rfl rfl rfl rfl rfl e_move ?_
   refine qg_val (v := pp Jn2 0) rfl rfl rfl rfl rfl e_move ?_
   refine qg_val (v := pp b13 4) rfl rfl rfl rfl rfl (e_fieldPt rfl tf159) ?_
   refine qg_val (v := .agg #[Nx (I2.epoch), Nx (I2.next), sB ps158 I2.state cs159, sB pr160 I2.recs cr161, Nx (I2.size)]) rfl rfl rfl rfl rfl (e_load tf142 rfl (k_pt 5 rfl rfl) rfl) ?_
   refine qg_call (v := .bool true) rfl rfl rfl rfl rfl (cl0 (vs := [pp Jn2 0, .agg #[Nx (I2.epoch), Nx (I2.next), sB ps158 I2.state cs159, sB pr160 I2.recs cr161, Nx (I2.size)]]) tf166 rfl rfl) (fun w hw => ?_) ?_
   ·obtain ⟨β1, sb, kn, hw1, back⟩ := St.frame_all hw
    exact (shows_ok β1 w hw1 Jn2 b1 I2 false (kn _ (Knows.of_res 7 rfl (JF.mono _ _ _ _) fun _ h => jour_jf h)) _ _ hS2.hb hS2.hn hS2.hbs (kn _ (Knows.of_res 6 rfl (Sl.mono U8R _ _) fun _ h => h.2.2.2.1)) (kn _ (Knows.of_res 6 rfl (Sl.mono BsR _ _) fun _ h => h.2.2.2.2.2.2))).mono (fun e w' ⟨he, hw'⟩ => ⟨he, st_mask [true, true, true, true, true, true, true, true, true] rfl (back _ _ hw')⟩)
   refine qg_val (v := .bool false) rfl rfl rfl rfl rfl (e_not (a := true) rfl) ?_
   refine qg_val (v := .bool false) rfl rfl rfl rfl rfl (e_pick_t rfl) ?_
   refine q_val (v := .bool false) rfl rfl rfl (e_pick_f rfl) ?_
   refine q_nil ?_
   refine f_then ?_
   refine c_no rfl ?_
   refine c_skip ?_
   refine f_block ?_
   refine f_then ?_
   refine c_pi [0, 1, 2, 3, 4, 5, 6, 7, 8] 9 rfl (by kernel_rfl) ?_
   refine c_closeStore (S := b1) (k := K2) (pH := pH174) (pA := pA175) (pB := pB176) (cH := cH177) (cA := cA178) (cB := cB179) (M := (shp [sB p43 ((x29.body.take 300)) c44] :: pt b13 (.cells #[sB pH152 K2.head cH155, sB pA153 K2.a cA156, sB pB154 K2.b cB157, Ix (K2.power), Nx (I2.epoch), Nx (I2.next), sB ps158 I2.state cs159, sB pr160 I2.recs cr161, Nx (I2.size), .bool false] 56) :: memV pH152 pA153 pB154 ps158 pr160 cH155 cA156 cB157 cs159 cr161 us K2 I2 :: jourR Jn2 b1 I2 false :: pt b42 (.cells #[Bx (x29.kind), Bx (x29.power), sB a37 x29.body (c38)] 47) :: [])) rfl ?_
   refine c_pi [2, 3, 0, 1, 4, 5] 6 rfl (by kernel_rfl) ?_
   refine c_seal (K := [pt b13 (.cells #[sB pH152 K2.head cH155, sB pA153 K2.a cA156, sB pB154 K2.b cB157, Ix (K2.power), Nx (I2.epoch), Nx (I2.next), sB ps158 I2.state cs159, sB pr160 I2.recs cr161, Nx (I2.size), .bool false] 56), memV pH152 pA153 pB154 ps158 pr160 cH155 cA156 cB157 cs159 cr161 us K2 I2]) (F := rjE b13 K2 I2 false) rfl (fun _ h => ⟨_, _, _, _, _, _, _, _, _, _, sat_UR h⟩) ?_
   refine c_region ?_
   refine lv (v := Nx (k + 1)) (e_add (a := ((k : Nat) : Int)) (b := (1 : Int)) rfl rfl (i64n (by omega) (by omega))) ?_
   refine lv e_move ?_
   refine l_nil ?_
   refine f_perm (L' := [jourR Jn2 b1 I2 false, storeR b1 K2, rjE b13 K2 I2 false, shp [sB p43 ((x29.body.take 300)) c44], pt b42 (.cells #[Bx (x29.kind), Bx (x29.power), sB a37 x29.body (c38)] 47)]) (perm_ix [3, 1, 0, 2, 4] 5 rfl (by kernel_rfl) (by kernel_rfl)) ?_
   refine f_mask (L' := [jourR Jn2 b1 I2 false, storeR b1 K2, rjE b13 K2 I2 false]) [true, true, true, false, false] rfl ?_
   exact f_cut ⟨(k + 1, 1, K2, I2, Jn2), ⟨⟨rfl, rfl, rfl, rfl, rfl, rfl⟩, rfl, ⟨by omega, by omega, hS2, hI12, hIx2, hz2⟩⟩, (show zs14.length - (k + 1) < zs14.length - k from by omega)⟩
  refine rebase (d := 4) (v := pp Jn2 0) rfl ?_
  refine c_re (L' := [pt b13 (.cells #[sB pH152 K2.head cH155, sB pA153 K2.a cA156, sB pB154 K2.b cB157, Ix (K2.power), Nx (I2.epoch), Nx (I2.next), sB ps158 I2.state cs159, sB pr160 I2.recs cr161, Nx (I2.size), .bool true] 56), memV pH152 pA153 pB154 ps158 pr160 cH155 cA156 cB157 cs159 cr161 us K2 I2, jourR Jn2 b1 I2 true, storeR b1 K2, rB p43 (lentX (x29.body.take 300)) c44, pt b42 (.cells #[Bx (x29.kind), Bx (x29.power), sB a37 x29.body (c38)] 47)]) (by rfl) ?_
  refine cs2 ?_
  refine c_region ?_
  refine lv e_move ?_
  refine lv (v := .agg #[Bx (x29.kind), Bx (x29.power), sB a37 x29.body (c38)]) (e_load tf87 rfl (k_pt 5 rfl rfl) rfl) ?_
  refine lcf (cl0 (vs := [.agg #[Bx (x29.kind), Bx (x29.power), sB a37 x29.body (c38)]]) tf100 rfl rfl) rfl fun w β1 sb kn hw1 back => (body_ok β1 w hw1 x29 a37 c38 (by omega) (by omega) (Elems.mono _ _ _ _ _ sb he41)).mono ?_
  rintro e w' ⟨rfl, hw'⟩
  refine ⟨_, rfl, _, back _ _ hw', ?_⟩
  clear hw1 hw' back kn sb
  refine lcf (cl0 (vs := [sB p43 ((x29.body.take 300)) c44, sB a37 (x29.body.take 300) (c38)]) tf171 rfl rfl) rfl fun w β1 sb kn hw1 back => (keptb_ok β1 w hw1 (x29.body.take 300) p43 c44 _ (by first | omega | (simp; omega)) (kU kn 4 rfl) (Sl.mono _ _ _ _ _ sb (⟨⟨_, _, rfl, by simp only [List.length_take]; omega, by omega, Elems.take 300 he41⟩⟩ : Sl U8R _ _ (x29.body.take 300)))).mono ?_
  rintro e w' ⟨rfl, hw'⟩
  refine ⟨_, rfl, _, back _ _ hw', ?_⟩
  clear hw1 hw' back kn sb
  refine lv (v := .bool false) (e_not (a := true) rfl) ?_
  refine lnf ?_
  refine c_no rfl ?_
  refine csk ?_
  refine csr ?_
  refine lv e_move ?_
  refine l_call rfl rfl rfl (cl0 (vs := [sB p43 ((x29.body.take 300)) c44]) tf163 rfl rfl) ?_
  intro w hw
  replace hw := hw.perm (L' := _ :: _ :: _ :: _ :: _ :: _ :: []) (by exact ((((((perm_front 5 rfl).trans (perm_front 4 rfl)).trans (perm_front 4 rfl)).trans (perm_front 4 rfl)).trans (perm_front 4 rfl)).trans (perm_front 5 rfl)))
  obtain ⟨β1, sb, kn, hw1, back⟩ := St.frame (L := [_]) (M := _ :: _ :: _ :: _ :: _ :: []) hw
  replace hw1 := hw1.conseq (r' := shp [sB p43 ((x29.body.take 300)) c44]) fun _ h => row_shp_part h (by first | omega | (rw [lentX_len]; omega))
  refine (over_ok β1 w [sB p43 ((x29.body.take 300)) c44] (sB p43 ((x29.body.take 300)) c44) (List.mem_singleton.2 rfl) ⟨_, _, _, rfl, by first | omega | (simp only [List.length_take]; omega)⟩ hw1).mono ?_
  rintro e w' ⟨rfl, hw'⟩
  refine ⟨_, rfl, _, back _ _ hw', ?_⟩
  clear hw hw1 hw' back kn sb
  refine lnf ?_
  refine c_seq ?_
  refine c_pi [4, 0, 1, 2, 3, 5] 6 rfl (by kernel_rfl) ?_
  refine c_openStore rfl (fun pH186 pA187 pB188 cH189 cA190 cB191 => ?_)
  refine c_rowcap 1 rfl (fun hcl192 hcm193 => ?_)
  refine c_rowcap 2 rfl (fun hcl194 hcm195 => ?_)
  refine c_rowcap 3 rfl (fun hcl196 hcm197 => ?_)
  refine c_quiet (by kernel_rfl) (by kernel_rfl) ?_
  refine q_val (v := pp b1 0) rfl rfl rfl e_move ?_
  refine q_val (v := pp b1 0) rfl rfl rfl (e_nil (a := ⟨b1, 0, none⟩) rfl) ?_
  refine q_val (v := .agg #[sB pH186 K2.head cH189, sB pA187 K2.a cA190, sB pB188 K2.b cB191, Ix (K2.power)]) rfl rfl rfl (e_load tf56 rfl (k_pt 0 rfl rfl) rfl) ?_
  refine q_val (v := pp b13 0) rfl rfl rfl (e_fieldPt rfl tf158) ?_
  refine q_val (v := .agg #[sB pH152 K2.head cH155, sB pA153 K2.a cA156, sB pB154 K2.b cB157, Ix (K2.power)]) rfl rfl rfl (e_load tf56 rfl (k_pt 5 rfl rfl) rfl) ?_
  refine q_call (v := .bool true) rfl rfl rfl (cl0 (vs := [.agg #[sB pH186 K2.head cH189, sB pA187 K2.a cA190, sB pB188 K2.b cB191, Ix (K2.power)], .agg #[sB pH152 K2.head cH155, sB pA153 K2.a cA156, sB pB154 K2.b cB157, Ix (K2.power)]]) tf122 rfl rfl) (fun w hw => ?_) ?_
  ·obtain ⟨β1, sb, kn, hw1, back⟩ := St.frame_all hw
   exact (sames_ok β1 w hw1 K2 _ _ _ (kU kn 1 rfl) (kU kn 2 rfl) (kU kn 3 rfl) _ _ _ (kn _ (Knows.of_res 6 rfl (Sl.mono U8R _ _) fun _ h => h.1)) (kn _ (Knows.of_res 6 rfl (Sl.mono U8R _ _) fun _ h => h.2.1)) (kn _ (Knows.of_res 6 rfl (Sl.mono U8R _ _) fun _ h => h.2.2.1))).mono (fun e w' ⟨he, hw'⟩ => ⟨he, st_mask [true, true, true, true, true, true, true, true, true] rfl (back _ _ hw')⟩)
  refine q_val (v := .bool false) rfl rfl rfl (e_not (a := true) rfl) ?_
  refine q_val (v := .bool false) rfl rfl rfl e_move ?_
  refine qg_val (v := pp Jn2 0) rfl rfl rfl rfl rfl e_move ?_
  refine qg_val (v := .bool true) rfl rfl rfl rfl rfl (e_neq_pnil (p := some (⟨Jn2, 0, none⟩)) rfl rfl tf36) ?_
  refine qg_val (v := .bool true) rfl rfl rfl rfl rfl e_move ?_
  refine qg_val (v := pp Jn2 0) rfl rfl rfl rfl rfl e_move ?_
  refine qg_val (v := pp b13 4) rfl rfl rfl rfl rfl (e_fieldPt rfl tf159) ?_
  refine qg_val (v := .agg #[Nx (I2.epoch), Nx (I2.next), sB ps158 I2.state cs159, sB pr160 I2.recs cr161, Nx (I2.size)]) rfl rfl rfl rfl rfl (e_load tf142 rfl (k_pt 5 rfl rfl) rfl) ?_
  refine qg_call (v := .bool true) rfl rfl rfl rfl rfl (cl0 (vs := [pp Jn2 0, .agg #[Nx (I2.epoch), Nx (I2.next), sB ps158 I2.state cs159, sB pr160 I2.recs cr161, Nx (I2.size)]]) tf166 rfl rfl) (fun w hw => ?_) ?_
  ·obtain ⟨β1, sb, kn, hw1, back⟩ := St.frame_all hw
   exact (shows_ok β1 w hw1 Jn2 b1 I2 true (kn _ (Knows.of_res 7 rfl (JF.mono _ _ _ _) fun _ h => jour_jf h)) _ _ hS2.hb hS2.hn hS2.hbs (kn _ (Knows.of_res 6 rfl (Sl.mono U8R _ _) fun _ h => h.2.2.2.1)) (kn _ (Knows.of_res 6 rfl (Sl.mono BsR _ _) fun _ h => h.2.2.2.2.2.2))).mono (fun e w' ⟨he, hw'⟩ => ⟨he, st_mask [true, true, true, true, true, true, true, true, true] rfl (back _ _ hw')⟩)
  refine qg_val (v := .bool false) rfl rfl rfl rfl rfl (e_not (a := true) rfl) ?_
  refine qg_val (v := .bool false) rfl rfl rfl rfl rfl (e_pick_t rfl) ?_
  refine q_val (v := .bool false) rfl rfl rfl (e_pick_f rfl) ?_
  refine q_nil ?_
  refine f_then ?_
  refine c_no rfl ?_
  refine c_skip ?_
  refine f_block ?_
  refine f_then ?_
  refine c_pi [0, 1, 2, 3, 4, 5, 6, 7, 8] 9 rfl (by kernel_rfl) ?_
  refine c_closeStore (S := b1) (k := K2) (pH := pH186) (pA := pA187) (pB := pB188) (cH := cH189) (cA := cA190) (cB := cB191) (M := (shp [sB p43 ((x29.body.take 300)) c44] :: pt b13 (.cells #[sB pH152 K2.head cH155, sB pA153 K2.a cA156, sB pB154 K2.b cB157, Ix (K2.power), Nx (I2.epoch), Nx (I2.next), sB ps158 I2.state cs159, sB pr160 I2.recs cr161, Nx (I2.size), .bool true] 56) :: memV pH152 pA153 pB154 ps158 pr160 cH155 cA156 cB157 cs159 cr161 us K2 I2 :: jourR Jn2 b1 I2 true :: pt b42 (.cells #[Bx (x29.kind), Bx (x29.power), sB a37 x29.body (c38)] 47) :: [])) rfl ?_
  refine c_pi [2, 3, 0, 1, 4, 5] 6 rfl (by kernel_rfl) ?_
  refine c_seal (K := [pt b13 (.cells #[sB pH152 K2.head cH155, sB pA153 K2.a cA156, sB pB154 K2.b cB157, Ix (K2.power), Nx (I2.epoch), Nx (I2.next), sB ps158 I2.state cs159, sB pr160 I2.recs cr161, Nx (I2.size), .bool true] 56), memV pH152 pA153 pB154 ps158 pr160 cH155 cA156 cB157 cs159 cr161 us K2 I2]) (F := rjE b13 K2 I2 true) rfl (fun _ h => ⟨_, _, _, _, _, _, _, _, _, _, sat_UR h⟩) ?_
  refine c_region ?_
  refine lv (v := Nx (k + 1)) (e_add (a := ((k : Nat) : Int)) (b := (1 : Int)) rfl rfl (i64n (by omega) (by omega))) ?_
  refine lv e_move ?_
  refine l_nil ?_
  refine f_perm (L' := [jourR Jn2 b1 I2 true, storeR b1 K2, rjE b13 K2 I2 true, shp [sB p43 ((x29.body.take 300)) c44], pt b42 (.cells #[Bx (x29.kind), Bx (x29.power), sB a37 x29.body (c38)] 47)]) (perm_ix [3, 1, 0, 2, 4] 5 rfl (by kernel_rfl) (by kernel_rfl)) ?_
  refine f_mask (L' := [jourR Jn2 b1 I2 true, storeR b1 K2, rjE b13 K2 I2 true]) [true, true, true, false, false] rfl ?_
  exact f_cut ⟨(k + 1, 2, K2, I2, Jn2), ⟨⟨rfl, rfl, rfl, rfl, rfl, rfl⟩, rfl, ⟨by omega, by omega, hS2, hI12, hIx2, hz2⟩⟩, (show zs14.length - (k + 1) < zs14.length - k from by omega)⟩
 refine c_exit ?_
 refine f_then_exit ?_
 refine f_then_exit ?_
 refine f_exit ?_
 refine ftc ?_
 refine lcf (cl0 (vs := []) tf111 rfl rfl) rfl fun w β1 sb kn hw1 back => (awake_ok β1 w hw1).mono ?_
 rintro e w' ⟨rfl, hw'⟩
 refine ⟨_, rfl, _, back _ _ hw', ?_⟩
 clear hw1 hw' back kn sb
 refine lv e_assign ?_
 refine lnf ?_
 refine c_ret ?_
 refine ret1 Try.results5 (v := .bool true) rfl ?_
 intro w hw
 exact ⟨rfl, st_mask [false, false, false] rfl hw⟩
end Go.Proofs
