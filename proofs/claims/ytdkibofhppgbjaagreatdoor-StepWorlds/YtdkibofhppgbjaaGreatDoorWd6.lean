/-
 The worlds' law: walked. Printed by a program of my own.
-/
import Derived.Test.YtdkibofhppgbjaaGreatDoorWd5
import Derived.Test.YtdkibofhppgbjaaGreatDoorSt23
import Derived.Test.YtdkibofhppgbjaaGreatDoorStAwk
import Derived.Test.YtdkibofhppgbjaaGreatDoorSlFlat
import Derived.Test.YtdkibofhppgbjaaGreatDoorSlB
namespace Go.Stp
open Go.Sl Go.Proofs
/-- what World returns: a world's tick and entities, stops, an error -/
def WRes (tick : Int) (es : List KEnt) (rs : List KR) (gx gy tkW : Int) (EW : List KEnt) (SW : List KS) (eW : Int) : Prop :=
 (okS (bodiesOf es) (ropesOf (bodiesOf es) rs) gx gy ∧ ∃ T,stepsTo (ropesOf (bodiesOf es) rs) gx gy (bodiesOf es) (bodiesOf es).length = (T,SW) ∧ tkW = tick ∧ EW = es.map (backE T) ∧ eW = 0) ∨
 (¬ okS (bodiesOf es) (ropesOf (bodiesOf es) rs) gx gy ∧ tkW = 0 ∧ EW = [] ∧ SW = [] ∧ eW = 2)
theorem wres (tick : Int) (es : List KEnt) (rs : List KR) (gx gy : Int) : ∃ tkW EW SW eW, WRes tick es rs gx gy tkW EW SW eW := by
 by_cases h : okS (bodiesOf es) (ropesOf (bodiesOf es) rs) gx gy
 ·exact ⟨_,_,(stepsTo (ropesOf (bodiesOf es) rs) gx gy (bodiesOf es) (bodiesOf es).length).2,_,.inl ⟨h,_,rfl,rfl,rfl,rfl⟩⟩
 exact ⟨_,_,_,_,.inr ⟨h,rfl,rfl,rfl,rfl⟩⟩
theorem back_comps {B : List KB} {es : List KEnt} {N : Nat} (h : ∀ e ∈ es, e.comps.length ≤ N) : ∀ e ∈ es.map (backE B), e.comps.length ≤ N := fun e he => by
 obtain ⟨x,hx,rfl⟩ := List.mem_map.1 he
 show (backC B x.id x.comps).length ≤ N
 rw [back_len]; exact h x hx
theorem WRes.bd {tick : Int} {es : List KEnt} {rs : List KR} {gx gy tkW : Int} {EW : List KEnt} {SW : List KS} {eW : Int} (h : WRes tick es rs gx gy tkW EW SW eW) {N : Nat} (hn : es.length ≤ 12) (hc : ∀ e ∈ es, e.comps.length ≤ N) : EW.length ≤ 12 ∧ ∀ e ∈ EW, e.comps.length ≤ N := by
 rcases h with ⟨_,T,_,_,rfl,_⟩ | ⟨_,_,rfl,_⟩
 ·exact ⟨by rw [List.length_map]; exact hn,back_comps hc⟩
 ·exact ⟨by decide,by simp⟩
/-- a world that was lent, of which one knows the entities -/
def lentX (p : Option Addr) (c : Nat) (es : List KEnt) : Res := fun a => ∃ ov : List OL, ov.map (·.e) = es ∧ lentO p c ov a
theorem k_lentX {β : Base} {L : List Res} {p : Option Addr} {c : Nat} {es : List KEnt} (i : Nat) (hi : L[i]? = some (lentX p c es)) : Knows β L (fun h => LESl h (sB p es c) es) :=
 Knows.of_res i hi (LESl.mono _ _) fun a ⟨ov,h1,h2⟩ => by subst h1; exact lentO_le a h2
theorem le_sl {h : PHeap} {v : Value} {xs : List KEnt} (hl : LESl h v xs) : Sl EntR h v xs := by
 obtain ⟨p,c,rfl,h1,h2,_,h3⟩ := hl
 exact ⟨p,c,rfl,by omega,h2,Elems.left h3⟩
end Go.Stp
namespace Go.Proofs
open Go Go.Sl Go.Stp
instance tw219 : CfC Tryz.prog 16 := ⟨by kernel_rfl⟩
instance tw220 : CfC Tryz.prog 17 := ⟨by kernel_rfl⟩
instance tw221 : FldC Tryz.prog 30 2 2 2 true := ⟨by kernel_rfl⟩
instance tw222 : CfC Tryz.prog 13 := ⟨by kernel_rfl⟩
instance tw223 : CfC Tryz.prog 23 := ⟨by kernel_rfl⟩
instance tw224 : CfC Tryz.prog 24 := ⟨by kernel_rfl⟩
instance tw225 : CfC Tryz.prog 25 := ⟨by kernel_rfl⟩
instance tw226 : CfC Tryz.prog 14 := ⟨by kernel_rfl⟩
instance tw227 : CfC Tryz.prog 26 := ⟨by kernel_rfl⟩
instance tw228 : CfC Tryz.prog 27 := ⟨by kernel_rfl⟩
instance tw229 : CfC Tryz.prog 28 := ⟨by kernel_rfl⟩
instance tw230 : CfC Tryz.prog 29 := ⟨by kernel_rfl⟩
instance tw231 : CfC Tryz.prog 30 := ⟨by kernel_rfl⟩
instance tw232 : CfC Tryz.prog 5 := ⟨by kernel_rfl⟩
instance tw233 : CfC Tryz.prog 7 := ⟨by kernel_rfl⟩
instance tw234 : UndC Tryz.prog 25 52 := ⟨by kernel_rfl⟩
instance tw235 : CfC Tryz.prog 6 := ⟨by kernel_rfl⟩
theorem worldU_ok (β : Base) (w : World) (hw : St β [] w) (tick : Int) (v rv : Value) (gx gy : Int) (es : List KEnt) (rs : List KR) (hs : Sl EntR β.heap v es) (hr : Sl KRR β.heap rv rs) (hn : es.length ≤ 65536) (hrn : rs.length ≤ 65536) (hcl : ∀ e ∈ es, e.comps.length ≤ 65536) (hgx : -9223372036854775808 ≤ gx ∧ gx ≤ 9223372036854775807) (hgy : -9223372036854775808 ≤ gy ∧ gy ≤ 9223372036854775807) (hG : GR β) (tkW : Int) (EW : List KEnt) (SW : List KS) (eW : Int) (hW : WRes tick es rs gx gy tkW EW SW eW) : Calls Tryz.prog 24 #[.agg #[Ix tick, v], rv, .agg #[Ix gx, Ix gy]] w fun r w' => ∃ p c hd sp sc, hd.length = EW.length ∧ r = .returned (.tuple #[.agg #[Ix tkW, sB p EW c], sB sp SW sc, Ix eW]) ∧ St β [rowF HdF 59 p c hd, goodO 120 hd EW, rowF StopF 55 sp sc SW] w' := by
 rcases hW with ⟨hok,T,hT,rfl,rfl,rfl⟩ | ⟨hno,rfl,rfl,rfl,rfl⟩
 ·refine (worldO_ok β w hw _ v rv gx gy es rs hs hr hn hrn hcl hgx hgy hG hok T SW hT).mono ?_
  rintro r w' ⟨p,c,hd,sp,sc,h1,rfl,h2⟩
  exact ⟨p,c,hd,sp,sc,by rw [h1,List.length_map],by simp only [sB,List.length_map],h2⟩
 refine (worldN_ok β w hw _ v rv gx gy es rs hs hr hn hrn hgx hgy hG hno).mono ?_
 rintro r w' ⟨rfl,h2⟩
 exact ⟨none,0,[],none,0,rfl,rfl,((h2.emp (row_nil _ _ _)).emp goodO_nil).emp (row_nil _ _ _)⟩
theorem rworldU_ok (β : Base) (w : World) (hw : St β [] w) (tick : Int) (v rv : Value) (gx gy : Int) (es : List KEnt) (rs : List KR) (hs : Sl EntR β.heap v es) (hr : Sl KRR β.heap rv rs) (hn : es.length ≤ 65536) (hrn : rs.length ≤ 65536) (hcl : ∀ e ∈ es, e.comps.length ≤ 65536) (tkW : Int) (EW : List KEnt) (SW : List KS) (eW : Int) (hW : WRes tick es rs gx gy tkW EW SW eW) : Calls Tryz.prog 25 #[.agg #[Ix tick, v], rv, .agg #[Ix gx, Ix gy]] w fun r w' => ∃ p c sp sc, r = .returned (.tuple #[.agg #[Ix tkW, sB p EW c], sB sp SW sc, Ix eW]) ∧ St β [entsR p c EW, rowF StopF 55 sp sc SW] w' := by
 rcases hW with ⟨hok,T,hT,rfl,rfl,rfl⟩ | ⟨hno,rfl,rfl,rfl,rfl⟩
 ·refine (rworldY_ok β w hw _ v rv gx gy es rs hs hr hn hrn hcl hok T SW hT).mono ?_
  rintro r w' ⟨p,c,sp,sc,rfl,h2⟩
  exact ⟨p,c,sp,sc,by simp only [sB,List.length_map],h2⟩
 refine (rworldN_ok β w hw _ v rv gx gy es rs hs hr hn hrn hcl hno).mono ?_
 rintro r w' ⟨rfl,h2⟩
 exact ⟨none,0,none,0,rfl,(h2.emp (row_nil _ _ _)).emp (Sl.nil _ _)⟩
theorem lentX_ok (β : Base) (w : World) (hw : St β [] w) (t : Int) (v : Value) (es : List KEnt) (hs : Sl EntR β.heap v es) (hn : es.length ≤ 1000) (hbig : ∀ (i : Nat) e, es[i]? = some e → e.comps.length ≤ 20) : Calls Tryz.prog 16 #[.agg #[Ix t, v]] w fun r w' => ∃ p c, r = .returned (.agg #[Ix t, sB p es c]) ∧ St β [lentX p c es] w' := by
 refine (lentWorld_ok β w hw ⟨t,es⟩ v hs hn hbig).mono ?_
 rintro r w' ⟨p,c,vs,h1,h2,h3⟩
 obtain ⟨ov,h4,h5⟩ := lent_own (xs := es) h2 h3
 exact ⟨p,c,h1,h5.conseq fun a ha => ⟨ov,h4,ha⟩⟩
theorem overX_ok (β : Base) (w : World) (t : Int) (p : Option Addr) (c : Nat) (es : List KEnt) (hle : es.length ≤ 1000) (hcl : ∀ e ∈ es, e.comps.length ≤ 1000) (hw : St β [lentX p c es] w) : Ret Tryz.prog 29 #[.agg #[Ix t, sB p es c]] β w (.tuple #[]) := by
 obtain ⟨ov,h⟩ := St.ex (r := fun (ov : List OL) a => ov.map (·.e) = es ∧ lentO p c ov a) hw
 have he : ov.map (·.e) = es := h.knows (F := fun _ => ov.map (·.e) = es) (Knows.of_res 0 rfl (fun _ _ _ h => h) fun _ h => h.1)
 subst he
 rw [List.length_map] at hle; simp only [sB,List.length_map]
 exact overW_ok β w t p c ov hle (fun o ho => hcl _ (List.mem_map_of_mem ho)) (h.conseq fun a ha => ha.2)
theorem keptX_ok (β : Base) (w : World) (hw : St β [] w) (t : Int) (es : List KEnt) (v v' : Value) (hx : LESl β.heap v es) (hy : Sl EntR β.heap v' es) : Calls Tryz.prog 27 #[.agg #[Ix t, v], .agg #[Ix t, v']] w fun r w' => r = .returned (.bool true) ∧ St β [] w' :=
 (keptWorld_ok β w hw ⟨t,es⟩ ⟨t,es⟩ v v' hx hy).mono fun r w' ⟨h1,h2⟩ => ⟨by rw [h1,decide_eq_true rfl],h2⟩
theorem sameX_ok (β : Base) (w : World) (hw : St β [] w) (t : Int) (es : List KEnt) (v v' : Value) (hx : Sl EntR β.heap v es) (hy : Sl EntR β.heap v' es) : Calls Tryz.prog 21 #[.agg #[Ix t, v], .agg #[Ix t, v']] w fun r w' => r = .returned (.bool true) ∧ St β [] w' :=
 (sameWorld_ok β w hw ⟨t,es⟩ ⟨t,es⟩ v v' hx hy).mono fun r w' ⟨h1,h2⟩ => ⟨by rw [h1,decide_eq_true rfl],h2⟩
theorem apartO_ok (β : Base) (w : World) (b1 b2 b3 : Nat) (t1 t2 : Int) (ea : Option Addr) (ec n1 : Nat) (hd : List KHd) (E : List KEnt) (fa : Option Addr) (fc n2 : Nat) (hd2 : List KHd) (F : List KEnt) (hls : Sl H3F.R β.heap (.slice (some ⟨b3, 0, none⟩) 2 2) [(⟨some ⟨b1, 0, none⟩, 1, 1⟩ : H3), ⟨some ⟨b2, 0, none⟩, 1, 1⟩]) (h1 : hd.length = n1) (h2 : hd2.length = n2) (hn1 : n1 ≤ 100) (hn2 : n2 ≤ 100) (hE : ∀ e ∈ E, e.comps.length ≤ 1000000) (hF : ∀ e ∈ F, e.comps.length ≤ 1000000) (hw : St β [pt b1 (.cells #[Ix t1, .slice ea n1 ec] 24), pt b2 (.cells #[Ix t2, .slice fa n2 fc] 24), rowF HdF 59 ea ec hd, rowF HdF 59 fa fc hd2, goodO 120 hd E, goodO 120 hd2 F] w) : Ret Tryz.prog 26 #[.slice (some ⟨b3, 0, none⟩) 2 2] β w (.bool true) := by
 subst h1; subst h2
 have g1 : EntH hd E := hw.knows (F := fun _ => EntH hd E) (goodO_hd 4 rfl)
 have g2 : EntH hd2 F := hw.knows (F := fun _ => EntH hd2 F) (goodO_hd 5 rfl)
 have w1 := hw.conseq_at 0 rfl (pt_rowF (F := WdF) (xs := [⟨t1,ea,hd.length,ec⟩]) rfl (by simp))
 have w2 := w1.conseq_at 1 rfl (pt_rowF (F := WdF) (xs := [⟨t2,fa,hd2.length,fc⟩]) rfl (by simp))
 have w3 := w2.conseq_at 4 rfl goodO_rows
 have w4 := w3.conseq_at 5 rfl goodO_rows
 exact apartW_ok β w _ _ _ _ _ _ t1 t2 ea ec hd fa fc hd2 _ _ hls (hv_hd g1).symm (hv_hd g2).symm hn1 hn2 (hv_bd hE) (hv_bd hF) w4
set_option maxHeartbeats 4000000 in
theorem worlds_ok (β : Base) (w : World) (hw : St β [] w) (tick : Int) (v bv rv : Value) (gx gy : Int) (es : List KEnt) (bs : List KB) (rs : List KR) (hs : Sl EntR β.heap v es) (hb : Sl KBR β.heap bv bs) (hr : Sl KRR β.heap rv rs) (hgx : -9223372036854775808 ≤ gx ∧ gx ≤ 9223372036854775807) (hgy : -9223372036854775808 ≤ gy ∧ gy ≤ 9223372036854775807) (hG : GR β) (hen : es.length ≤ 12) (hcl8 : ∀ e ∈ es, e.comps.length ≤ 8) (hbn : bs.length ≤ 12) (hrn6 : rs.length ≤ 6) : Ret Tryz.prog 6 #[.agg #[Ix tick, v], .agg #[bv, rv, Ix gx, Ix gy]] β w (.bool true) := by
 obtain ⟨va,vc,rfl,vl,vm,ve⟩ := hs.get
 obtain ⟨bva,bvc,rfl,bvl,bvm,bve⟩ := hb.get
 obtain ⟨rva,rvc,rfl,rvl,rvm,rve⟩ := hr.get
 have hn : es.length ≤ 65536 := by omega
 have hrn : rs.length ≤ 65536 := by omega
 have hcl : ∀ e ∈ es,e.comps.length ≤ 65536 := fun e he => by have := hcl8 e he; omega
 have hbig : ∀ (i : Nat) e,es[i]? = some e → e.comps.length ≤ 20 := fun i e he => by have := hcl8 e (List.mem_of_getElem? he); omega
 obtain ⟨tkW,EW,SW,eW,hW⟩ := wres tick es rs gx gy
 have hWb := hW.bd hen hcl8
 refine enter (n := 113) Tryz.func6 rfl Tryz.ntmps6 rfl ?_ hw
 refine csr (bxa fun b1 => ?_)
 refine bxa fun b2 => ?_
 refine lE oab (lnf (c_seq ?_))
 refine cny [sv 15 (.agg #[Ix (tick),sB va es (vc)]) [] [] [0],⟨[0],[0],[],[16],fun f => f 16 = .agg #[Ix (tick),sB (sla (prt 1 (f 16))) es (slc (prt 1 (f 16)))]⟩,sv 17 (.agg #[sB bva bs (bvc),sB rva rs (rvc),Ix (gx),Ix (gy)]) [] [] [1],⟨[0,1,2],[2],[],[18],fun f => f 18 = .agg #[sB (sla (prt 0 (f 18))) bs (slc (prt 0 (f 18))),sB (sla (prt 1 (f 18))) rs (slc (prt 1 (f 18))),Ix (gx),Ix (gy)]⟩,⟨[],[],[],[5],fun f => f 5 = .pointer (some ⟨(blk (f 5)),0,none⟩)⟩,⟨[],[],[],[6],fun f => f 6 = .pointer (some ⟨(blk (f 6)),0,none⟩)⟩,⟨(List.range 6),[4,1],[],[],fun _ => True⟩,⟨(List.range 7),[5,3],[],[],fun _ => True⟩] [tk (pt b2 (.cells #[sB bva bs (bvc),sB rva rs (rvc),Ix (gx),Ix (gy)] 30)) [2],tk (pt b1 (.cells #[Ix (tick),sB va es (vc)] 24)) [0],⟨(some 1),none,[],[16],fun f => lentX (sla (prt 1 (f 16))) (slc (prt 1 (f 16))) es⟩,⟨(some 3),none,[],[18],fun f => rowF BodyF 52 (sla (prt 0 (f 18))) (slc (prt 0 (f 18))) (lentL (markB 1) bs)⟩,⟨(some 3),none,[],[18],fun f => rowF RopeF 78 (sla (prt 1 (f 18))) (slc (prt 1 (f 18))) (lentL (markR 1) rs)⟩,⟨(some 4),(some 6),[6],[5],fun f => pt (blk (f 5)) (.cells #[.int .i64 (0),.slice none 0 0] 24)⟩,⟨(some 5),(some 7),[7],[6],fun f => pt (blk (f 6)) (.cells #[.slice none 0 0,.slice none 0 0,.int .i64 (0),.int .i64 (0)] 30)⟩,⟨(some 6),none,[],[5,16],fun f => pt (blk (f 5)) (.cells #[Ix (tick),sB (sla (prt 1 (f 16))) es (slc (prt 1 (f 16)))] 24)⟩,⟨(some 7),none,[],[6,18],fun f => pt (blk (f 6)) (.cells #[sB (sla (prt 0 (f 18))) bs (slc (prt 0 (f 18))),sB (sla (prt 1 (f 18))) rs (slc (prt 1 (f 18))),Ix (gx),Ix (gy)] 30)⟩] [(2,pp b1 0),(3,pp b2 0)] [0,1] [] ⟨rfl,rfl,trivial⟩ ⟨?_,?_,?_,?_,?_,?_,?_,?_,trivial⟩ ?_
 ·rintro f M - ⟨i0,-⟩
  exact obE (olg 0)
 ·rintro f M ⟨k0,-⟩ -
  refine ob_start (L' := M) (by rfl) (up_cons (d := 15) rfl k0) ?_
  refine lcf (cl0 (vs := [.agg #[Ix (tick),sB va es (vc)]]) tw219.ok rfl rfl) rfl fun w β1 sb kn hw1 back => (lentX_ok β1 w hw1 (tick) _ es (Sl.mono _ _ _ _ _ sb (⟨⟨_,_,rfl,vl,vm,ve⟩⟩ : Sl EntR _ _ es)) (by omega) hbig).mono ?_
  rintro e w' ⟨p5,c6,rfl,hw'⟩
  refine ⟨_,rfl,_,back _ _ hw',?_⟩
  clear hw1 hw' back kn sb
  refine l_nil ?_
  exact f_owes_d (up_cons (d := 15) rfl k0) rfl (perm_front 0 rfl)
 ·rintro f M - ⟨i0,-⟩
  exact obE (olg 0)
 ·rintro f M ⟨k0,-⟩ -
  refine ob_start (L' := M) (by rfl) (up_cons (d := 17) rfl k0) ?_
  refine lcf (cl0 (vs := [.agg #[sB bva bs (bvc),sB rva rs (rvc),Ix (gx),Ix (gy)]]) tw220.ok rfl rfl) rfl fun w β1 sb kn hw1 back => (lentS_ok β1 w hw1 _ _ gx gy bs rs (Sl.mono _ _ _ _ _ sb (⟨⟨_,_,rfl,bvl,bvm,bve⟩⟩ : Sl KBR _ _ bs)) (Sl.mono _ _ _ _ _ sb (⟨⟨_,_,rfl,rvl,rvm,rve⟩⟩ : Sl KRR _ _ rs)) (by omega) (by omega)).mono ?_
  rintro e w' ⟨p11,c12,q13,d14,rfl,hw'⟩
  refine ⟨_,rfl,_,back _ _ hw',?_⟩
  clear hw1 hw' back kn sb
  refine l_nil ?_
  exact f_owes_d (up_cons (d := 17) rfl k0) rfl ((perm_front 1 rfl).trans (perm_front 1 rfl))
 ·rintro f M - -
  refine ob_start (L' := M) (by rfl) rfl (alE fun b16 => l_nil ?_)
  exact f_owes_d rfl rfl (perm_front 0 rfl)
 ·rintro f M - -
  refine ob_start (L' := M) (by rfl) rfl (alE fun b18 => l_nil ?_)
  exact f_owes_d rfl rfl (perm_front 0 rfl)
 ·rintro f M ⟨k0,k1,-⟩ -
  have hs5 : f 5 = .pointer (some ⟨(blk (f 5)),0,none⟩) := k0
  have hs16 : f 16 = .agg #[Ix (tick),sB (sla (prt 1 (f 16))) es (slc (prt 1 (f 16)))] := k1
  refine ob_start (L' := pt (blk (f 5)) (.cells #[.int .i64 (0),.slice none 0 0] 24) :: M) (by rfl) (up_cons (up_cons rfl hs5) hs16) ?_
  refine lu (mS 0 (#[Ix (tick),sB (sla (prt 1 (f 16))) es (slc (prt 1 (f 16)))])) (l_nil ?_)
  exact f_owes_n (up_cons (up_cons rfl hs5) hs16) trivial (perm_front 0 rfl)
 ·rintro f M ⟨k0,k1,-⟩ -
  have hs6 : f 6 = .pointer (some ⟨(blk (f 6)),0,none⟩) := k0
  have hs18 : f 18 = .agg #[sB (sla (prt 0 (f 18))) bs (slc (prt 0 (f 18))),sB (sla (prt 1 (f 18))) rs (slc (prt 1 (f 18))),Ix (gx),Ix (gy)] := k1
  refine ob_start (L' := pt (blk (f 6)) (.cells #[.slice none 0 0,.slice none 0 0,.int .i64 (0),.int .i64 (0)] 30) :: M) (by rfl) (up_cons (up_cons rfl hs6) hs18) ?_
  refine lu (mS 0 (#[sB (sla (prt 0 (f 18))) bs (slc (prt 0 (f 18))),sB (sla (prt 1 (f 18))) rs (slc (prt 1 (f 18))),Ix (gx),Ix (gy)])) (l_nil ?_)
  exact f_owes_n (up_cons (up_cons rfl hs6) hs18) trivial (perm_front 0 rfl)
 rintro fa19 ⟨-,-,-,-,k4,k5,-,-,-⟩ ⟨j0,j1,-⟩
 refine f_re (L' := [pt b2 (.cells #[sB bva bs (bvc),sB rva rs (rvc),Ix (gx),Ix (gy)] 30),pt b1 (.cells #[Ix (tick),sB va es (vc)] 24),lentX (sla (prt 1 (fa19 16))) (slc (prt 1 (fa19 16))) es,rowF BodyF 52 (sla (prt 0 (fa19 18))) (slc (prt 0 (fa19 18))) (lentL (markB 1) bs),rowF RopeF 78 (sla (prt 1 (fa19 18))) (slc (prt 1 (fa19 18))) (lentL (markR 1) rs),pt (blk (fa19 5)) (.cells #[Ix (tick),sB (sla (prt 1 (fa19 16))) es (slc (prt 1 (fa19 16)))] 24),pt (blk (fa19 6)) (.cells #[sB (sla (prt 0 (fa19 18))) bs (slc (prt 0 (fa19 18))),sB (sla (prt 1 (fa19 18))) rs (slc (prt 1 (fa19 18))),Ix (gx),Ix (gy)] 30)]) (by rfl) ?_
 refine f_rebase (d := 2) j0 (f_rebase (d := 3) j1 (f_rebase (d := 5) k4 (f_rebase (d := 6) k5 (ftc (lE (olg 5) (lE ofp (lE (ols 6) (lE ofp ?_))))))))
 refine lE (olg 0) ?_
 refine lcf (cl0 (vs := [.agg #[Ix (tick),sB (sla (prt 1 (fa19 16))) es (slc (prt 1 (fa19 16)))],sB (sla (prt 1 (fa19 18))) rs (slc (prt 1 (fa19 18))),.agg #[Ix (gx),Ix (gy)]]) tw66.ok rfl rfl) rfl fun w β1 sb kn hw1 back => (worldB_ok β1 w hw1 _ _ _ (gx) (gy) es rs (le_sl (kn _ (k_lentX 2 rfl))) (kn _ (k_flPre 4 (F := RopeF) (xs := rs) rfl rfl)) hn hrn).mono ?_
 rintro e w' ⟨p20,c21,p22,c23,rfl,hw'⟩
 refine ⟨_,rfl,_,back _ _ hw',?_⟩
 clear hw1 hw' back kn sb
 refine alE fun b24 => lu (mS 0 (#[sB p20 (bodiesOf es) c21,sB p22 (ropesOf (bodiesOf es) rs) c23,Ix (gx),Ix (gy)])) (lnc (lE (olg 8) (lE (olg 9) ?_)))
 refine lcf (cl0 (vs := [.agg #[Ix (tick),sB (sla (prt 1 (fa19 16))) es (slc (prt 1 (fa19 16)))],.agg #[sB (sla (prt 0 (fa19 18))) bs (slc (prt 0 (fa19 18))),sB (sla (prt 1 (fa19 18))) rs (slc (prt 1 (fa19 18))),Ix (gx),Ix (gy)]]) tw68.ok rfl rfl) rfl fun w β1 sb kn hw1 back => (backO_ok β1 w hw1 _ _ _ _ _ _ es bs (le_sl (kn _ (k_lentX 5 rfl))) (kn _ (k_flPre 6 (F := BodyF) (xs := bs) rfl rfl)) hn hcl).mono ?_
 rintro e w' ⟨p25,c26,hd27,hl28,rfl,hw'⟩
 refine ⟨_,rfl,_,back _ _ hw',?_⟩
 clear hw1 hw' back kn sb
 refine alE fun b29 => lu (mS 0 (#[Ix (tick),sB p25 es c26])) (lnf (cs2 ?_))
 refine cny [sv 28 (.agg #[sB p20 (bodiesOf es) c21,sB p22 (ropesOf (bodiesOf es) rs) c23,Ix (gx),Ix (gy)]) [] [] [0],sv 29 (.agg #[Ix (tick),sB va es (vc)]) [] [] [1],sv 30 (pp b2 1) [] [] [2],sv 31 (sB rva rs (rvc)) [2] [2] [],sv 32 (pp b2 2) [] [] [2],sv 33 (.agg #[Ix (gx),Ix (gy)]) [4] [4] [],⟨[1,2,3,4,5],[1,3,5],[],[34],fun f => f 34 = .agg #[sB (sla (prt 0 (f 34))) (bodiesOf es) (slc (prt 0 (f 34))),sB (sla (prt 1 (f 34))) (ropesOf (bodiesOf es) rs) (slc (prt 1 (f 34))),Ix (gx),Ix (gy)]⟩,sv 35 (.bool true) (List.range 7) [0,6] [],sv 36 (.bool false) (List.range 8) [7] [],sv 37 (.bool false) (List.range 9) [8] [],sv 38 (.agg #[Ix (tick),sB p25 es c26]) (List.range 10) [9] [3],sv 39 (.agg #[Ix (tick),sB va es (vc)]) (List.range 10) [9] [1],sv 40 (.agg #[sB bva bs (bvc),sB rva rs (rvc),Ix (gx),Ix (gy)]) (List.range 10) [9] [2],⟨[0,1,2,3,4,5,6,7,8,9,11,12],[11,12,9],[],[41],fun f => f 41 = .agg #[Ix (tick),sB (sla (prt 1 (f 41))) es (slc (prt 1 (f 41)))]⟩,sv 42 (.bool true) (List.range 14) [10,13,9] [],sv 43 (.bool false) (List.range 15) [14,9] [],sv 44 (.bool false) (List.range 16) [9,15] []] [tk (pt b29 (.cells #[Ix (tick),sB p25 es c26] 24)) [10],tk (rowF HdF 59 p25 c26 hd27) [14],tk (goodO 120 hd27 (es.map (backE bs))) [14],tk (pt b24 (.cells #[sB p20 (bodiesOf es) c21,sB p22 (ropesOf (bodiesOf es) rs) c23,Ix (gx),Ix (gy)] 30)) [0],tk (rowF BodyF 52 p20 c21 (bodiesOf es)) [7],tk (rowF RopeF 78 p22 c23 (ropesOf (bodiesOf es) rs)) [7],tk (pt b2 (.cells #[sB bva bs (bvc),sB rva rs (rvc),Ix (gx),Ix (gy)] 30)) [3,5,12],tk (pt b1 (.cells #[Ix (tick),sB va es (vc)] 24)) [1,11],tk (lentX (sla (prt 1 (fa19 16))) (slc (prt 1 (fa19 16))) es) [],tk (rowF BodyF 52 (sla (prt 0 (fa19 18))) (slc (prt 0 (fa19 18))) (lentL (markB 1) bs)) [],tk (rowF RopeF 78 (sla (prt 1 (fa19 18))) (slc (prt 1 (fa19 18))) (lentL (markR 1) rs)) [],tk (pt (blk (fa19 5)) (.cells #[Ix (tick),sB (sla (prt 1 (fa19 16))) es (slc (prt 1 (fa19 16)))] 24)) [],tk (pt (blk (fa19 6)) (.cells #[sB (sla (prt 0 (fa19 18))) bs (slc (prt 0 (fa19 18))),sB (sla (prt 1 (fa19 18))) rs (slc (prt 1 (fa19 18))),Ix (gx),Ix (gy)] 30)) [],⟨(some 6),none,[7],[34],fun f => rowF BodyF 52 (sla (prt 0 (f 34))) (slc (prt 0 (f 34))) (bodiesOf es)⟩,⟨(some 6),none,[7],[34],fun f => rowF RopeF 78 (sla (prt 1 (f 34))) (slc (prt 1 (f 34))) (ropesOf (bodiesOf es) rs)⟩,⟨(some 13),none,[14],[41],fun f => entsR (sla (prt 1 (f 41))) (slc (prt 1 (f 41))) (es.map (backE bs))⟩] [(7,pp b24 0),(2,pp b1 0),(3,pp b2 0),(8,pp b29 0),(5,.pointer (some ⟨(blk (fa19 5)),0,none⟩)),(6,.pointer (some ⟨(blk (fa19 6)),0,none⟩))] [1,2,4,5,0,3] [] ⟨rfl,rfl,rfl,rfl,rfl,rfl,trivial⟩ ⟨?_,?_,?_,?_,?_,?_,?_,?_,?_,?_,?_,?_,?_,?_,?_,?_,?_,trivial⟩ ?_
 ·rintro f M - ⟨i0,-⟩
  exact obE (olg 0)
 ·rintro f M - ⟨i0,-⟩
  exact obE (olg 0)
 ·rintro f M - ⟨i0,-⟩
  exact obE ofp
 ·rintro f M ⟨k0,-⟩ -
  exact obE (ols 0)
 ·rintro f M - ⟨i0,-⟩
  exact obE ofp
 ·rintro f M ⟨k0,-⟩ -
  exact obE (olg 0)
 ·rintro f M ⟨k0,k1,k2,-⟩ -
  refine ob_start (L' := M) (by rfl) (up_cons (d := 33) (up_cons (d := 31) (up_cons (d := 29) rfl k0) k1) k2) ?_
  refine lcf (cl0 (vs := [.agg #[Ix (tick),sB va es (vc)],sB rva rs (rvc),.agg #[Ix (gx),Ix (gy)]]) tw57.ok rfl rfl) rfl fun w β1 sb kn hw1 back => (rbodies_ok β1 w hw1 _ _ _ (gx) (gy) es rs (Sl.mono _ _ _ _ _ sb (⟨⟨_,_,rfl,vl,vm,ve⟩⟩ : Sl EntR _ _ es)) (Sl.mono _ _ _ _ _ sb (⟨⟨_,_,rfl,rvl,rvm,rve⟩⟩ : Sl KRR _ _ rs)) hn hrn).mono ?_
  rintro e w' ⟨p34,c35,p36,c37,rfl,hw'⟩
  refine ⟨_,rfl,_,back _ _ hw',?_⟩
  clear hw1 hw' back kn sb
  refine l_nil ?_
  exact f_owes_d (up_cons (d := 33) (up_cons (d := 31) (up_cons (d := 29) rfl k0) k1) k2) rfl ((perm_front 1 rfl).trans (perm_front 1 rfl))
 ·rintro f M ⟨k0,k1,-⟩ -
  have hs34 : f 34 = .agg #[sB (sla (prt 0 (f 34))) (bodiesOf es) (slc (prt 0 (f 34))),sB (sla (prt 1 (f 34))) (ropesOf (bodiesOf es) rs) (slc (prt 1 (f 34))),Ix (gx),Ix (gy)] := k1
  refine ob_start (L' := rowF BodyF 52 p20 c21 (bodiesOf es) :: rowF RopeF 78 p22 c23 (ropesOf (bodiesOf es) rs) :: rowF BodyF 52 (sla (prt 0 (f 34))) (slc (prt 0 (f 34))) (bodiesOf es) :: rowF RopeF 78 (sla (prt 1 (f 34))) (slc (prt 1 (f 34))) (ropesOf (bodiesOf es) rs) :: M) (by rfl) (up_cons (up_cons (d := 28) rfl k0) hs34) ?_
  refine lcR clA (fun w β1 sb kn hw1 => eqScene_ok β1 w hw1 _ _ _ _ (gx) (gy) (bodiesOf es) (ropesOf (bodiesOf es) rs) (kn _ (k_flN 0 (F := BodyF) (m := (bodiesOf es).length) (xs := (bodiesOf es)) rfl rfl)) (kn _ (k_flN 1 (F := RopeF) (m := (ropesOf (bodiesOf es) rs).length) (xs := (ropesOf (bodiesOf es) rs)) rfl rfl)) (kn _ (k_flN 2 (F := BodyF) (m := (bodiesOf es).length) (xs := (bodiesOf es)) rfl rfl)) (kn _ (k_flN 3 (F := RopeF) (m := (ropesOf (bodiesOf es) rs).length) (xs := (ropesOf (bodiesOf es) rs)) rfl rfl))) ?_
  refine l_nil ?_
  exact f_owes_d (up_cons (up_cons (d := 28) rfl k0) hs34) rfl ((((perm_front 3 rfl).trans (perm_front 3 rfl)).trans (perm_front 3 rfl)).trans (perm_front 3 rfl))
 ·rintro f M ⟨k0,-⟩ -
  exact obE ont
 ·rintro f M ⟨k0,-⟩ -
  exact obE omb
 ·rintro f M ⟨k0,-⟩ ⟨i0,-⟩
  exact obG (olg 0)
 ·rintro f M ⟨k0,-⟩ ⟨i0,-⟩
  exact obG (olg 0)
 ·rintro f M ⟨k0,-⟩ ⟨i0,-⟩
  exact obG (olg 0)
 ·rintro f M ⟨k0,k1,k2,-⟩ -
  refine ob_start (L' := M) (by rfl) (up_cons (d := 37) (up_cons (d := 40) (up_cons (d := 39) rfl k0) k1) k2) ?_
  refine g_call rfl rfl rfl rfl rfl (cl0 (vs := [.agg #[Ix (tick),sB va es (vc)],.agg #[sB bva bs (bvc),sB rva rs (rvc),Ix (gx),Ix (gy)]]) tw59.ok rfl rfl) ?_
  intro w hw
  obtain ⟨β1,sb,kn,hw1,back⟩ := St.frame_all hw
  refine (rback_ok β1 w hw1 _ _ _ _ _ _ es bs (Sl.mono _ _ _ _ _ sb (⟨⟨_,_,rfl,vl,vm,ve⟩⟩ : Sl EntR _ _ es)) (Sl.mono _ _ _ _ _ sb (⟨⟨_,_,rfl,bvl,bvm,bve⟩⟩ : Sl KBR _ _ bs)) hn hcl).mono ?_
  rintro e w' ⟨p40,c41,rfl,hw'⟩
  refine ⟨_,rfl,_,back _ _ hw',?_⟩
  clear hw hw1 hw' back kn sb
  refine l_nil ?_
  exact f_owes_d (up_cons (d := 37) (up_cons (d := 40) (up_cons (d := 39) rfl k0) k1) k2) rfl (perm_front 0 rfl)
 ·rintro f M ⟨k0,k1,k2,-⟩ -
  have hs41 : f 41 = .agg #[Ix (tick),sB (sla (prt 1 (f 41))) es (slc (prt 1 (f 41)))] := k1
  refine ob_start (L' := rowF HdF 59 p25 c26 hd27 :: goodO 120 hd27 (es.map (backE bs)) :: entsR (sla (prt 1 (f 41))) (slc (prt 1 (f 41))) (es.map (backE bs)) :: M) (by rfl) (up_cons (d := 37) (up_cons (up_cons (d := 38) rfl k0) hs41) k2) ?_
  refine g_call rfl rfl rfl rfl rfl (cl0 (vs := [.agg #[Ix (tick),sB p25 es c26],.agg #[Ix (tick),sB (sla (prt 1 (f 41))) es (slc (prt 1 (f 41)))]]) tw99.ok rfl rfl) ?_
  intro w hw
  obtain ⟨β1,sb,kn,hw1,back⟩ := St.frame_all hw
  refine (sameX_ok β1 w hw1 (tick) (es.map (backE bs)) _ _ (by simpa only [List.length_map] using kn _ (k_entsO 0 1 (zs := (es.map (backE bs))) rfl rfl)) (by simpa only [List.length_map] using kn _ (k_ents 2 (zs := (es.map (backE bs))) rfl))).mono ?_
  rintro e w' ⟨rfl,hw'⟩
  refine ⟨_,rfl,_,back _ _ hw',?_⟩
  clear hw hw1 hw' back kn sb
  refine l_nil ?_
  exact f_owes_d (up_cons (d := 37) (up_cons (up_cons (d := 38) rfl k0) hs41) k2) rfl (((perm_front 2 rfl).trans (perm_front 2 rfl)).trans (perm_front 2 rfl))
 ·rintro f M ⟨k0,k1,-⟩ -
  exact obG ont
 ·rintro f M ⟨k0,k1,-⟩ -
  exact obE okfb
 rintro fa42 ⟨-,-,-,-,-,-,-,-,-,-,-,-,-,-,-,-,k16,-⟩ ⟨j0,j1,j2,j3,j4,j5,-⟩
 refine f_re (L' := [pt b29 (.cells #[Ix (tick),sB p25 es c26] 24),rowF HdF 59 p25 c26 hd27,goodO 120 hd27 (es.map (backE bs)),pt b24 (.cells #[sB p20 (bodiesOf es) c21,sB p22 (ropesOf (bodiesOf es) rs) c23,Ix (gx),Ix (gy)] 30),rowF BodyF 52 p20 c21 (bodiesOf es),rowF RopeF 78 p22 c23 (ropesOf (bodiesOf es) rs),pt b2 (.cells #[sB bva bs (bvc),sB rva rs (rvc),Ix (gx),Ix (gy)] 30),pt b1 (.cells #[Ix (tick),sB va es (vc)] 24),lentX (sla (prt 1 (fa19 16))) (slc (prt 1 (fa19 16))) es,rowF BodyF 52 (sla (prt 0 (fa19 18))) (slc (prt 0 (fa19 18))) (lentL (markB 1) bs),rowF RopeF 78 (sla (prt 1 (fa19 18))) (slc (prt 1 (fa19 18))) (lentL (markR 1) rs),pt (blk (fa19 5)) (.cells #[Ix (tick),sB (sla (prt 1 (fa19 16))) es (slc (prt 1 (fa19 16)))] 24),pt (blk (fa19 6)) (.cells #[sB (sla (prt 0 (fa19 18))) bs (slc (prt 0 (fa19 18))),sB (sla (prt 1 (fa19 18))) rs (slc (prt 1 (fa19 18))),Ix (gx),Ix (gy)] 30),rowF BodyF 52 (sla (prt 0 (fa42 34))) (slc (prt 0 (fa42 34))) (bodiesOf es),rowF RopeF 78 (sla (prt 1 (fa42 34))) (slc (prt 1 (fa42 34))) (ropesOf (bodiesOf es) rs),entsR (sla (prt 1 (fa42 41))) (slc (prt 1 (fa42 41))) (es.map (backE bs))]) (by rfl) ?_
 refine f_rebase (d := 2) j0 (f_rebase (d := 3) j1 (f_rebase (d := 5) j2 (f_rebase (d := 6) j3 (f_rebase (d := 7) j4 (f_rebase (d := 8) j5 ?_)))))
 refine f_rebase (d := 44) k16 (f_then (c_no rfl (csk ?_)))
 refine c_seq_cut (fun (f : Fm) (L : List Res) => ∃ (u_ : Unit),(f 2 = pp b1 0 ∧ f 3 = pp b2 0 ∧ f 5 = .pointer (some ⟨(blk (fa19 5)),0,none⟩) ∧ f 6 = .pointer (some ⟨(blk (fa19 6)),0,none⟩) ∧ f 7 = pp b24 0) ∧ L = [pt b24 (.cells #[sB p20 (bodiesOf es) c21,sB p22 (ropesOf (bodiesOf es) rs) c23,Ix (gx),Ix (gy)] 30),rowF BodyF 52 p20 c21 (bodiesOf es),rowF RopeF 78 p22 c23 (ropesOf (bodiesOf es) rs),pt b2 (.cells #[sB bva bs (bvc),sB rva rs (rvc),Ix (gx),Ix (gy)] 30),pt b1 (.cells #[Ix (tick),sB va es (vc)] 24),lentX (sla (prt 1 (fa19 16))) (slc (prt 1 (fa19 16))) es,rowF BodyF 52 (sla (prt 0 (fa19 18))) (slc (prt 0 (fa19 18))) (lentL (markB 1) bs),rowF RopeF 78 (sla (prt 1 (fa19 18))) (slc (prt 1 (fa19 18))) (lentL (markR 1) rs),pt (blk (fa19 5)) (.cells #[Ix (tick),sB (sla (prt 1 (fa19 16))) es (slc (prt 1 (fa19 16)))] 24),pt (blk (fa19 6)) (.cells #[sB (sla (prt 0 (fa19 18))) bs (slc (prt 0 (fa19 18))),sB (sla (prt 1 (fa19 18))) rs (slc (prt 1 (fa19 18))),Ix (gx),Ix (gy)] 30)] ∧ (True)) ?_ ?_
 ·refine c_seq (c_mask [true,true,true,true,true,true,true,true,true,true,true,true,true,false,false,false] rfl (c_region (lE (olg 3) ?_)))
  refine lcf (cl0 (vs := [.agg #[sB p20 (bodiesOf es) c21,sB p22 (ropesOf (bodiesOf es) rs) c23,Ix (gx),Ix (gy)]]) tw223.ok rfl rfl) rfl fun w β1 sb kn hw1 back => (few_ok β1 w hw1 _ _ gx gy (bodiesOf es) (ropesOf (bodiesOf es) rs) (kn _ (k_flN 4 (F := BodyF) (m := (bodiesOf es).length) (xs := (bodiesOf es)) rfl rfl)) (kn _ (k_flN 5 (F := RopeF) (m := (ropesOf (bodiesOf es) rs).length) (xs := (ropesOf (bodiesOf es) rs)) rfl rfl))).mono ?_
  rintro e w' ⟨fb43,rfl,-,hw'⟩
  refine ⟨_,rfl,_,back _ _ hw',?_⟩
  clear hw1 hw' back kn sb
  refine lnf (c_ifb (fb43) rfl (fun hc44 => ?_) (fun hc44 => ?_))
  ·refine csr (lE (olg 11) (lE ofp (lE (ols 12) (lE ofp (lE (olg 6) ?_)))))
   refine lcf (cl0 (vs := [.agg #[Ix (tick),sB (sla (prt 1 (fa19 16))) es (slc (prt 1 (fa19 16)))],sB (sla (prt 1 (fa19 18))) rs (slc (prt 1 (fa19 18))),.agg #[Ix (gx),Ix (gy)]]) tw224.ok rfl rfl) rfl fun w β1 sb kn hw1 back => (worldU_ok β1 w hw1 _ _ _ gx gy es rs (le_sl (kn _ (k_lentX 8 rfl))) (kn _ (k_flPre 10 (F := RopeF) (xs := rs) rfl rfl)) hn hrn hcl hgx hgy (GR.mono sb hG) tkW EW SW eW hW).mono ?_
   rintro e w' ⟨p45,c46,hd47,p48,c49,hl50,rfl,hw'⟩
   refine ⟨_,rfl,_,back _ _ hw',?_⟩
   clear hw1 hw' back kn sb
   refine lE omt (lE oxa (lE oxs (lE oxi (alE fun b51 => lu (mS 0 (#[Ix (tkW),sB p45 EW c46])) (lE oas (lE oai (lnc (lE (olg 11) (lE ofp (lE (ols 10) ?_))))))))))
   refine lE ofp (lE (olg 10) ?_)
   refine lcf (cl0 (vs := [.agg #[Ix (tick),sB va es (vc)],sB rva rs (rvc),.agg #[Ix (gx),Ix (gy)]]) tw225.ok rfl rfl) rfl fun w β1 sb kn hw1 back => (rworldU_ok β1 w hw1 _ _ _ gx gy es rs (Sl.mono _ _ _ _ _ sb (⟨⟨_,_,rfl,vl,vm,ve⟩⟩ : Sl EntR _ _ es)) (Sl.mono _ _ _ _ _ sb (⟨⟨_,_,rfl,rvl,rvm,rve⟩⟩ : Sl KRR _ _ rs)) hn hrn hcl tkW EW SW eW hW).mono ?_
   rintro e w' ⟨p52,c53,p55,c56,rfl,hw'⟩
   refine ⟨_,rfl,_,back _ _ hw',?_⟩
   clear hw1 hw' back kn sb
   refine lE omt (lE oxa (lE oxs (lE oxi (alE fun b58 => lu (mS 0 (#[Ix (tkW),sB p52 EW c53])) (lE oas (lE oai (lnc (lE omi (lE omi (lE onq (lE omb ?_)))))))))))
   refine l_split (s := 70) rfl (fun h => ?_) (fun h => ?_)
   exact absurd h (fun q => q rfl)
   refine gE (olg 3) (gE (olg 0) ?_)
   refine g_call rfl rfl rfl rfl rfl (cl0 (vs := [.agg #[Ix (tkW),sB p45 EW c46],.agg #[Ix (tkW),sB p52 EW c53]]) tw99.ok rfl rfl) ?_
   intro w hw
   obtain ⟨β1,sb,kn,hw1,back⟩ := St.frame_all hw
   refine (sameX_ok β1 w hw1 (tkW) EW _ _ (kn _ (k_entsO 4 5 rfl rfl)) (kn _ (k_ents 1 rfl))).mono ?_
   rintro e w' ⟨rfl,hw'⟩
   refine ⟨_,rfl,_,back _ _ hw',?_⟩
   clear hw hw1 hw' back kn sb
   refine gE ont (lE okfb (lE omb (gE oms (gE oms (g_call rfl rfl rfl rfl rfl (cl0 (vs := [sB p48 SW c49,sB p55 SW c56]) tw226.ok rfl rfl) ?_)))))
   intro w hw
   obtain ⟨β1,sb,kn,hw1,back⟩ := St.frame_all hw
   refine (eqS_ok β1 w hw1 _ _ SW (kn _ (k_flN 6 (F := StopF) (m := SW.length) (xs := SW) rfl rfl)) (kn _ (k_flN 2 (F := StopF) (m := SW.length) (xs := SW) rfl rfl))).mono ?_
   rintro e w' ⟨rfl,hw'⟩
   refine ⟨_,rfl,_,back _ _ hw',?_⟩
   clear hw hw1 hw' back kn sb
   refine gE ont (lE okfb (lE omb (gE (olg 7) (g_mv rfl rfl rfl rfl rfl (m_slices tw95 tw45.ok (cells := #[Ix (tick),sB p25 es c26]) rfl rfl rfl rfl) ?_))))
   rintro _ _ ⟨b59,rfl,rfl⟩
   refine gE (olg 4) (g_mv rfl rfl rfl rfl rfl (m_slices tw95 tw45.ok (cells := #[Ix (tkW),sB p45 EW c46]) rfl rfl rfl rfl) ?_)
   rintro _ _ ⟨b60,rfl,rfl⟩
   refine g_mv rfl rfl rfl rfl rfl (m_slices tw91 tw97.ok (cells := #[.slice (some ⟨b59,0,none⟩) 1 1,.slice (some ⟨b60,0,none⟩) 1 1]) rfl rfl rfl rfl) ?_
   rintro _ _ ⟨b61,rfl,rfl⟩
   refine g_call rfl rfl rfl rfl rfl (cl0 (vs := [.slice (some ⟨b61,0,none⟩) 2 2]) tw227.ok rfl rfl) ?_
   intro w hw
   replace hw := hw.perm (L' := [pt b59 (.cells #[Ix (tick),sB p25 es c26] 24),pt b60 (.cells #[Ix (tkW),sB p45 EW c46] 24),rowF HdF 59 p25 c26 hd27,rowF HdF 59 p45 c46 hd47,goodO 120 hd27 (es.map (backE bs)),goodO 120 hd47 EW,pt b61 (.cells #[.slice (some ⟨b59,0,none⟩) 1 1,.slice (some ⟨b60,0,none⟩) 1 1] 68),pt b58 (.cells #[Ix (tkW),sB p52 EW c53] 24),entsR p52 c53 EW,rowF StopF 55 p55 c56 SW,pt b51 (.cells #[Ix (tkW),sB p45 EW c46] 24),rowF StopF 55 p48 c49 SW,pt b29 (.cells #[Ix (tick),sB p25 es c26] 24),pt b24 (.cells #[sB p20 (bodiesOf es) c21,sB p22 (ropesOf (bodiesOf es) rs) c23,Ix (gx),Ix (gy)] 30),rowF BodyF 52 p20 c21 (bodiesOf es),rowF RopeF 78 p22 c23 (ropesOf (bodiesOf es) rs),pt b2 (.cells #[sB bva bs (bvc),sB rva rs (rvc),Ix (gx),Ix (gy)] 30),pt b1 (.cells #[Ix (tick),sB va es (vc)] 24),lentX (sla (prt 1 (fa19 16))) (slc (prt 1 (fa19 16))) es,rowF BodyF 52 (sla (prt 0 (fa19 18))) (slc (prt 0 (fa19 18))) (lentL (markB 1) bs),rowF RopeF 78 (sla (prt 1 (fa19 18))) (slc (prt 1 (fa19 18))) (lentL (markR 1) rs),pt (blk (fa19 5)) (.cells #[Ix (tick),sB (sla (prt 1 (fa19 16))) es (slc (prt 1 (fa19 16)))] 24),pt (blk (fa19 6)) (.cells #[sB (sla (prt 0 (fa19 18))) bs (slc (prt 0 (fa19 18))),sB (sla (prt 1 (fa19 18))) rs (slc (prt 1 (fa19 18))),Ix (gx),Ix (gy)] 30)]) (by exact (perm_ix [2,1,11,7,12,8,0,3,4,5,6,9,10,13,14,15,16,17,18,19,20,21,22] 23 rfl (by kernel_rfl) (by kernel_rfl)))
   obtain ⟨β1,sb,kn,hw1,back⟩ := St.frame (L := [_,_,_,_,_,_]) (M := _ :: _ :: _ :: _ :: _ :: _ :: _ :: _ :: _ :: _ :: _ :: _ :: _ :: _ :: _ :: _ :: _ :: []) hw
   refine (apartO_ok β1 w b59 b60 b61 _ _ _ _ _ _ (es.map (backE bs)) _ _ _ _ EW (kn _ (k_ptFls (F := H3F) 0 (m := 2) (xs := [(⟨some ⟨b59,0,none⟩,1,1⟩ : H3),⟨some ⟨b60,0,none⟩,1,1⟩]) rfl rfl rfl (by simp))) (by simpa using hl28) (by simpa using hl50) (by omega) (by omega) (back_comps (fun e he => by have := hcl8 e he; omega)) (fun e he => by have := hWb.2 e he; omega) hw1).mono ?_
   rintro e w' ⟨rfl,hw'⟩
   refine ⟨_,rfl,_,back _ _ hw',?_⟩
   clear hw hw1 hw' back kn sb
   refine gE ont (lE okfb (lnf (c_no rfl (c_skip ?_))))
   refine f_mask [false,false,false,false,false,false,false,true,true,true,true,true,true,true,true,true,true] rfl ?_
   exact f_cut ⟨(),⟨rfl,rfl,rfl,rfl,rfl⟩,rfl,trivial⟩
  refine c_skip (f_mask [false,false,false,true,true,true,true,true,true,true,true,true,true] rfl ?_)
  exact f_cut ⟨(),⟨rfl,rfl,rfl,rfl,rfl⟩,rfl,trivial⟩
 rintro f0 L0 ⟨u_,⟨hs2,hs3,hs5,hs6,hs7⟩,hL,-⟩
 subst L0
 refine rbs 2 hs2 (rbs 3 hs3 (rbs 5 hs5 (rbs 6 hs6 (rbs 7 hs7 (cs2 (c_region (lE (olg 8) (lE (olg 4) ?_))))))))
 refine lcR clA (fun w β1 sb kn hw1 => keptX_ok β1 w hw1 (tick) es _ _ (kn _ (k_lentX 5 rfl)) (Sl.mono _ _ _ _ _ sb (⟨⟨_,_,rfl,vl,vm,ve⟩⟩ : Sl EntR _ _ es))) ?_
 refine lE ont (lE omb (gE (olg 9) (gE (olg 3) ?_)))
 refine g_call rfl rfl rfl rfl rfl (cl0 (vs := [.agg #[sB (sla (prt 0 (fa19 18))) bs (slc (prt 0 (fa19 18))),sB (sla (prt 1 (fa19 18))) rs (slc (prt 1 (fa19 18))),Ix (gx),Ix (gy)],.agg #[sB bva bs (bvc),sB rva rs (rvc),Ix (gx),Ix (gy)]]) tw229.ok rfl rfl) ?_
 intro w hw
 obtain ⟨β1,sb,kn,hw1,back⟩ := St.frame_all hw
 refine (keptS_ok β1 w hw1 _ _ _ _ _ _ gx gy bs rs (by omega) (by omega) (kn _ (k_fl 6 (F := BodyF) rfl)) (kn _ (k_fl 7 (F := RopeF) rfl)) (Sl.mono _ _ _ _ _ sb (⟨⟨_,_,rfl,bvl,bvm,bve⟩⟩ : Sl KBR _ _ bs)) (Sl.mono _ _ _ _ _ sb (⟨⟨_,_,rfl,rvl,rvm,rve⟩⟩ : Sl KRR _ _ rs))).mono ?_
 rintro e w' ⟨rfl,hw'⟩
 refine ⟨_,rfl,_,back _ _ hw',?_⟩
 clear hw hw1 hw' back kn sb
 refine gE ont (lE okfb (lnf (c_no rfl (csk (csr (lE (olg 8) ?_))))))
 refine l_call rfl rfl rfl (cl0 (vs := [.agg #[Ix (tick),sB (sla (prt 1 (fa19 16))) es (slc (prt 1 (fa19 16)))]]) tw230.ok rfl rfl) ?_
 intro w hw
 replace hw := hw.perm (L' := _ :: _ :: _ :: _ :: _ :: _ :: _ :: _ :: _ :: _ :: []) (by exact ((((((((((perm_front 9 rfl).trans (perm_front 9 rfl)).trans (perm_front 9 rfl)).trans (perm_front 9 rfl)).trans (perm_front 8 rfl)).trans (perm_front 8 rfl)).trans (perm_front 8 rfl)).trans (perm_front 8 rfl)).trans (perm_front 8 rfl)).trans (perm_front 9 rfl)))
 obtain ⟨β1,sb,kn,hw1,back⟩ := St.frame (L := [_]) (M := _ :: _ :: _ :: _ :: _ :: _ :: _ :: _ :: _ :: []) hw
 refine (overX_ok β1 w (tick) _ _ es (by omega) (fun e he => by have := hcl8 e he; omega) hw1).mono ?_
 rintro e w' ⟨rfl,hw'⟩
 refine ⟨_,rfl,_,back _ _ hw',?_⟩
 clear hw hw1 hw' back kn sb
 refine lnc (lE (olg 8) ?_)
 refine l_call rfl rfl rfl (cl0 (vs := [.agg #[sB (sla (prt 0 (fa19 18))) bs (slc (prt 0 (fa19 18))),sB (sla (prt 1 (fa19 18))) rs (slc (prt 1 (fa19 18))),Ix (gx),Ix (gy)]]) tw231.ok rfl rfl) ?_
 intro w hw
 replace hw := hw.perm (L' := _ :: _ :: _ :: _ :: _ :: _ :: _ :: _ :: _ :: []) (by exact (((((((((perm_front 8 rfl).trans (perm_front 8 rfl)).trans (perm_front 6 rfl)).trans (perm_front 6 rfl)).trans (perm_front 6 rfl)).trans (perm_front 6 rfl)).trans (perm_front 6 rfl)).trans (perm_front 8 rfl)).trans (perm_front 8 rfl)))
 obtain ⟨β1,sb,kn,hw1,back⟩ := St.frame (L := [_,_]) (M := _ :: _ :: _ :: _ :: _ :: _ :: _ :: []) hw
 refine (overS_ok β1 w _ _ _ _ _ _ gx gy _ _ (lentL_len _ _) (lentL_len _ _) (by omega) (by omega) hw1).mono ?_
 rintro e w' ⟨zs62,ts63,rfl,hw'⟩
 refine ⟨_,rfl,_,back _ _ hw',?_⟩
 clear hw hw1 hw' back kn sb
 refine lnf (c_seq (c_mask [false,false,true,true,true,true,true,true,true] rfl ?_))
 refine cny [sv 105 (.agg #[sB p20 (bodiesOf es) c21,sB p22 (ropesOf (bodiesOf es) rs) c23,Ix (gx),Ix (gy)]) [] [] [0],sv 106 (.agg #[Ix (tick),sB va es (vc)]) [] [] [1],sv 107 (pp b2 1) [] [] [2],sv 108 (sB rva rs (rvc)) [2] [2] [],sv 109 (pp b2 2) [] [] [2],sv 110 (.agg #[Ix (gx),Ix (gy)]) [4] [4] [],⟨[1,2,3,4,5],[1,3,5],[],[111],fun f => f 111 = .agg #[sB (sla (prt 0 (f 111))) (bodiesOf es) (slc (prt 0 (f 111))),sB (sla (prt 1 (f 111))) (ropesOf (bodiesOf es) rs) (slc (prt 1 (f 111))),Ix (gx),Ix (gy)]⟩,sv 112 (.bool true) (List.range 7) [0,6] [],sv 4 (.bool true) (List.range 8) [7] []] [tk (pt b24 (.cells #[sB p20 (bodiesOf es) c21,sB p22 (ropesOf (bodiesOf es) rs) c23,Ix (gx),Ix (gy)] 30)) [0],tk (rowF BodyF 52 p20 c21 (bodiesOf es)) [7],tk (rowF RopeF 78 p22 c23 (ropesOf (bodiesOf es) rs)) [7],tk (pt b2 (.cells #[sB bva bs (bvc),sB rva rs (rvc),Ix (gx),Ix (gy)] 30)) [3,5],tk (pt b1 (.cells #[Ix (tick),sB va es (vc)] 24)) [1],tk (pt (blk (fa19 5)) (.cells #[Ix (tick),sB (sla (prt 1 (fa19 16))) es (slc (prt 1 (fa19 16)))] 24)) [],tk (pt (blk (fa19 6)) (.cells #[sB (sla (prt 0 (fa19 18))) bs (slc (prt 0 (fa19 18))),sB (sla (prt 1 (fa19 18))) rs (slc (prt 1 (fa19 18))),Ix (gx),Ix (gy)] 30)) [],⟨(some 6),none,[7],[111],fun f => rowF BodyF 52 (sla (prt 0 (f 111))) (slc (prt 0 (f 111))) (bodiesOf es)⟩,⟨(some 6),none,[7],[111],fun f => rowF RopeF 78 (sla (prt 1 (f 111))) (slc (prt 1 (f 111))) (ropesOf (bodiesOf es) rs)⟩] [(7,pp b24 0),(2,pp b1 0),(3,pp b2 0)] [] [] ⟨rfl,rfl,rfl,trivial⟩ ⟨?_,?_,?_,?_,?_,?_,?_,?_,?_,trivial⟩ ?_
 ·rintro f M - ⟨i0,-⟩
  exact obE (olg 0)
 ·rintro f M - ⟨i0,-⟩
  exact obE (olg 0)
 ·rintro f M - ⟨i0,-⟩
  exact obE ofp
 ·rintro f M ⟨k0,-⟩ -
  exact obE (ols 0)
 ·rintro f M - ⟨i0,-⟩
  exact obE ofp
 ·rintro f M ⟨k0,-⟩ -
  exact obE (olg 0)
 ·rintro f M ⟨k0,k1,k2,-⟩ -
  refine ob_start (L' := M) (by rfl) (up_cons (d := 110) (up_cons (d := 108) (up_cons (d := 106) rfl k0) k1) k2) ?_
  refine lcf (cl0 (vs := [.agg #[Ix (tick),sB va es (vc)],sB rva rs (rvc),.agg #[Ix (gx),Ix (gy)]]) tw57.ok rfl rfl) rfl fun w β1 sb kn hw1 back => (rbodies_ok β1 w hw1 _ _ _ (gx) (gy) es rs (Sl.mono _ _ _ _ _ sb (⟨⟨_,_,rfl,vl,vm,ve⟩⟩ : Sl EntR _ _ es)) (Sl.mono _ _ _ _ _ sb (⟨⟨_,_,rfl,rvl,rvm,rve⟩⟩ : Sl KRR _ _ rs)) hn hrn).mono ?_
  rintro e w' ⟨p68,c69,p70,c71,rfl,hw'⟩
  refine ⟨_,rfl,_,back _ _ hw',?_⟩
  clear hw1 hw' back kn sb
  refine l_nil ?_
  exact f_owes_d (up_cons (d := 110) (up_cons (d := 108) (up_cons (d := 106) rfl k0) k1) k2) rfl ((perm_front 1 rfl).trans (perm_front 1 rfl))
 ·rintro f M ⟨k0,k1,-⟩ -
  have hs111 : f 111 = .agg #[sB (sla (prt 0 (f 111))) (bodiesOf es) (slc (prt 0 (f 111))),sB (sla (prt 1 (f 111))) (ropesOf (bodiesOf es) rs) (slc (prt 1 (f 111))),Ix (gx),Ix (gy)] := k1
  refine ob_start (L' := rowF BodyF 52 p20 c21 (bodiesOf es) :: rowF RopeF 78 p22 c23 (ropesOf (bodiesOf es) rs) :: rowF BodyF 52 (sla (prt 0 (f 111))) (slc (prt 0 (f 111))) (bodiesOf es) :: rowF RopeF 78 (sla (prt 1 (f 111))) (slc (prt 1 (f 111))) (ropesOf (bodiesOf es) rs) :: M) (by rfl) (up_cons (up_cons (d := 105) rfl k0) hs111) ?_
  refine lcR clA (fun w β1 sb kn hw1 => eqScene_ok β1 w hw1 _ _ _ _ (gx) (gy) (bodiesOf es) (ropesOf (bodiesOf es) rs) (kn _ (k_flN 0 (F := BodyF) (m := (bodiesOf es).length) (xs := (bodiesOf es)) rfl rfl)) (kn _ (k_flN 1 (F := RopeF) (m := (ropesOf (bodiesOf es) rs).length) (xs := (ropesOf (bodiesOf es) rs)) rfl rfl)) (kn _ (k_flN 2 (F := BodyF) (m := (bodiesOf es).length) (xs := (bodiesOf es)) rfl rfl)) (kn _ (k_flN 3 (F := RopeF) (m := (ropesOf (bodiesOf es) rs).length) (xs := (ropesOf (bodiesOf es) rs)) rfl rfl))) ?_
  refine l_nil ?_
  exact f_owes_d (up_cons (up_cons (d := 105) rfl k0) hs111) rfl ((((perm_front 3 rfl).trans (perm_front 3 rfl)).trans (perm_front 3 rfl)).trans (perm_front 3 rfl))
 ·rintro f M ⟨k0,-⟩ -
  exact obE oab
 rintro fa72 ⟨-,-,-,-,-,-,-,-,k8,-⟩ -
 refine f_re (L' := [pt b24 (.cells #[sB p20 (bodiesOf es) c21,sB p22 (ropesOf (bodiesOf es) rs) c23,Ix (gx),Ix (gy)] 30),rowF BodyF 52 p20 c21 (bodiesOf es),rowF RopeF 78 p22 c23 (ropesOf (bodiesOf es) rs),pt b2 (.cells #[sB bva bs (bvc),sB rva rs (rvc),Ix (gx),Ix (gy)] 30),pt b1 (.cells #[Ix (tick),sB va es (vc)] 24),pt (blk (fa19 5)) (.cells #[Ix (tick),sB (sla (prt 1 (fa19 16))) es (slc (prt 1 (fa19 16)))] 24),pt (blk (fa19 6)) (.cells #[sB (sla (prt 0 (fa19 18))) bs (slc (prt 0 (fa19 18))),sB (sla (prt 1 (fa19 18))) rs (slc (prt 1 (fa19 18))),Ix (gx),Ix (gy)] 30),rowF BodyF 52 (sla (prt 0 (fa72 111))) (slc (prt 0 (fa72 111))) (bodiesOf es),rowF RopeF 78 (sla (prt 1 (fa72 111))) (slc (prt 1 (fa72 111))) (ropesOf (bodiesOf es) rs)]) (by rfl) ?_
 refine f_rebase (d := 4) k8 (ftr (ret1 Tryz.results6 rfl ?_))
 intro w hw
 exact ⟨rfl,st_mask [false,false,false,false,false,false,false,false,false] rfl hw⟩
set_option maxHeartbeats 4000000 in
theorem stepWorlds_ok (β : Base) (w : World) (hw : St β [] w) (tick : Int) (v bv rv : Value) (gx gy : Int) (es : List KEnt) (bs : List KB) (rs : List KR) (hs : Sl EntR β.heap v es) (hb : Sl KBR β.heap bv bs) (hr : Sl KRR β.heap rv rs) (hgx : -9223372036854775808 ≤ gx ∧ gx ≤ 9223372036854775807) (hgy : -9223372036854775808 ≤ gy ∧ gy ≤ 9223372036854775807) (hG : GR β) : Ret Tryz.prog 3 #[.agg #[Ix tick, v], .agg #[bv, rv, Ix gx, Ix gy]] β w (.bool true) := by
 obtain ⟨va,vc,rfl,vl,vm,ve⟩ := hs.get
 obtain ⟨bva,bvc,rfl,bvl,bvm,bve⟩ := hb.get
 obtain ⟨rva,rvc,rfl,rvl,rvm,rve⟩ := hr.get
 refine enter (n := 28) Tryz.func3 rfl Tryz.ntmps3 rfl ?_ hw
 refine csr (bxa fun b1 => ?_)
 refine bxa fun b2 => ?_
 refine lE oab (lnc (lE (olg 1) ?_))
 refine lcf (cl0 (vs := [.agg #[Ix (tick),sB va es (vc)]]) tw232.ok rfl rfl) rfl fun w β1 sb kn hw1 back => (smallW_ok β1 w hw1 (tick) _ es (Sl.mono _ _ _ _ _ sb (⟨⟨_,_,rfl,vl,vm,ve⟩⟩ : Sl EntR _ _ es))).mono ?_
 rintro e w' ⟨sm3,rfl,hsm,hw'⟩
 refine ⟨_,rfl,_,back _ _ hw',?_⟩
 clear hw1 hw' back kn sb
 refine lE ont (lE omb (l_splitb (s := 8) (b := !sm3) rfl (fun hg4 => ?_) (fun hg4 => ?_)))
 ·refine skE (skE (skE (skE (lE oktb (lE omb (skE (skE (skE (skE (lE oktb (lE omb (skE (skE (skE (lE oktb (lE omb ?_))))))))))))))))
  refine g_call rfl rfl rfl rfl rfl (cl0 (vs := []) tw233.ok rfl rfl) ?_
  intro w hw
  obtain ⟨β1,sb,kn,hw1,back⟩ := St.frame_all hw
  refine (awake_ok β1 w hw1 (GR.mono sb hG)).mono ?_
  rintro e w' ⟨rfl,hw'⟩
  refine ⟨_,rfl,_,back _ _ hw',?_⟩
  clear hw hw1 hw' back kn sb
  refine lE oktb (lE oab (lnf (c_ret (ret1 Tryz.results3 rfl ?_))))
  intro w hw
  exact ⟨rfl,st_mask [false,false] rfl hw⟩
 refine gE ofp (gE (ols 0) (gE oln (gE ogt (lE okfb (lE omb (l_split (s := 14) rfl (fun hg5 => ?_) (fun hg5 => ?_)))))))
 ·refine skE (skE (skE (skE (lE oktb (lE omb (skE (skE (skE (lE oktb (lE omb (g_call rfl rfl rfl rfl rfl (cl0 (vs := []) tw233.ok rfl rfl) ?_)))))))))))
  intro w hw
  obtain ⟨β1,sb,kn,hw1,back⟩ := St.frame_all hw
  refine (awake_ok β1 w hw1 (GR.mono sb hG)).mono ?_
  rintro e w' ⟨rfl,hw'⟩
  refine ⟨_,rfl,_,back _ _ hw',?_⟩
  clear hw hw1 hw' back kn sb
  refine lE oktb (lE oab (lnf (c_ret (ret1 Tryz.results3 rfl ?_))))
  intro w hw
  exact ⟨rfl,st_mask [false,false] rfl hw⟩
 refine gE ofp (gE (ols 0) (gE oln (gE ogt (lE okfb (lE omb (l_split (s := 20) rfl (fun hg6 => ?_) (fun hg6 => ?_)))))))
 ·refine skE (skE (skE (lE oktb (lE omb (g_call rfl rfl rfl rfl rfl (cl0 (vs := []) tw233.ok rfl rfl) ?_)))))
  intro w hw
  obtain ⟨β1,sb,kn,hw1,back⟩ := St.frame_all hw
  refine (awake_ok β1 w hw1 (GR.mono sb hG)).mono ?_
  rintro e w' ⟨rfl,hw'⟩
  refine ⟨_,rfl,_,back _ _ hw',?_⟩
  clear hw hw1 hw' back kn sb
  refine lE oktb (lE oab (lnf (c_ret (ret1 Tryz.results3 rfl ?_))))
  intro w hw
  exact ⟨rfl,st_mask [false,false] rfl hw⟩
 refine gE (olg 1) (gE (olg 0) ?_)
 refine g_call rfl rfl rfl rfl rfl (cl0 (vs := [.agg #[Ix (tick),sB va es (vc)],.agg #[sB bva bs (bvc),sB rva rs (rvc),Ix (gx),Ix (gy)]]) tw235.ok rfl rfl) ?_
 intro w hw
 obtain ⟨β1,sb,kn,hw1,back⟩ := St.frame_all hw
 refine (worlds_ok β1 w hw1 (tick) _ _ _ gx gy es bs rs (Sl.mono _ _ _ _ _ sb (⟨⟨_,_,rfl,vl,vm,ve⟩⟩ : Sl EntR _ _ es)) (Sl.mono _ _ _ _ _ sb (⟨⟨_,_,rfl,bvl,bvm,bve⟩⟩ : Sl KBR _ _ bs)) (Sl.mono _ _ _ _ _ sb (⟨⟨_,_,rfl,rvl,rvm,rve⟩⟩ : Sl KRR _ _ rs)) hgx hgy (GR.mono sb hG) (hsm (by simpa using hg4)).1 (hsm (by simpa using hg4)).2 (by omega) (by omega)).mono ?_
 rintro e w' ⟨rfl,hw'⟩
 refine ⟨_,rfl,_,back _ _ hw',?_⟩
 clear hw hw1 hw' back kn sb
 refine lE okfb (lE omb (g_call rfl rfl rfl rfl rfl (cl0 (vs := []) tw233.ok rfl rfl) ?_))
 intro w hw
 obtain ⟨β1,sb,kn,hw1,back⟩ := St.frame_all hw
 refine (awake_ok β1 w hw1 (GR.mono sb hG)).mono ?_
 rintro e w' ⟨rfl,hw'⟩
 refine ⟨_,rfl,_,back _ _ hw',?_⟩
 clear hw hw1 hw' back kn sb
 refine lE oktb (lE oab (lnf (c_ret (ret1 Tryz.results3 rfl ?_))))
 intro w hw
 exact ⟨rfl,st_mask [false,false] rfl hw⟩
end Go.Proofs
