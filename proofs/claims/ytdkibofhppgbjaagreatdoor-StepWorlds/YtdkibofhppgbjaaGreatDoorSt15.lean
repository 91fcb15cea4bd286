/-
 The reference's step: shifted,hits,held,move. Printed by a program of my own.
-/
import Derived.Test.YtdkibofhppgbjaaGreatDoorSt14
import Derived.Test.YtdkibofhppgbjaaGreatDoorStRef
import Derived.Test.YtdkibofhppgbjaaGreatDoorSlB
namespace Go.Proofs
open Go Go.Sl Go.Stp
theorem ok_of_inside' {b nx : KB} {y : Bool} {j : Int} (h : okB b) (hn : sh y b j = nx) (hi : inside nx) : okB nx := by subst hn; exact ok_of_inside h hi
instance tf121 : CfC Tryz.prog 212 := ⟨by kernel_rfl⟩
instance tf122 : CfC Tryz.prog 70 := ⟨by kernel_rfl⟩
instance tf123 : CfC Tryz.prog 213 := ⟨by kernel_rfl⟩
instance tf124 : CfC Tryz.prog 177 := ⟨by kernel_rfl⟩
instance tf125 : CfC Tryz.prog 178 := ⟨by kernel_rfl⟩
instance tf126 : CfC Tryz.prog 179 := ⟨by kernel_rfl⟩
instance tf127 : CfC Tryz.prog 180 := ⟨by kernel_rfl⟩
theorem shift8_1_ok (β : Base) (w : World) (hw : St β [] w) (b : KB) (n : Int) (hb : -1099511627776 ≤ b.x ∧ b.x ≤ 1099511627776) (hn : -1099511627776 ≤ n ∧ n ≤ 1099511627776) : Ret Tryz.prog 177 #[.agg (bC b), .int .u8 (1), Ix n] β w (.agg (bC (sh false b n))) := by
 refine enter (n := 24) Tryz.func177 rfl Tryz.ntmps177 rfl ?_ hw
 refine csr (bxa fun b1 => ?_)
 refine alE fun b2 => lnf (cs2 (c_region (lE omi (lE oeq_ (lnf (c_yes rfl (c_region (lE ofp (lE ofp (lE (oli 1) (lE omi (lE opl (lE ofp (lE ofp ?_))))))))))))))
 refine lu (mS 1 (#[Ix (b.id),Ix ((b.x) + (n)),Ix (b.y),Ix (b.vx),Ix (b.vy),Ix (b.w),Ix (b.h),.bool (b.round),.bool (b.fixed)])) (lnc (lE (olg 1) ?_))
 refine lu (mS 0 (#[Ix (b.id),Ix ((b.x) + (n)),Ix (b.y),Ix (b.vx),Ix (b.vy),Ix (b.w),Ix (b.h),.bool (b.round),.bool (b.fixed)])) (lnf (c_ret ?_))
 refine retG (m := [.agg #[Ix (b.id),Ix ((b.x) + (n)),Ix (b.y),Ix (b.vx),Ix (b.vy),Ix (b.w),Ix (b.h),.bool (b.round),.bool (b.fixed)]]) Tryz.results177 ⟨rd_cell tf22.ok rfl (k_pt 0 rfl rfl) rfl,trivial⟩ rfl ?_
 intro w hw
 exact ⟨rfl,st_mask [false,false] rfl hw⟩
theorem shift8_2_ok (β : Base) (w : World) (hw : St β [] w) (b : KB) (n : Int) (hb : -1099511627776 ≤ b.y ∧ b.y ≤ 1099511627776) (hn : -1099511627776 ≤ n ∧ n ≤ 1099511627776) : Ret Tryz.prog 177 #[.agg (bC b), .int .u8 (2), Ix n] β w (.agg (bC (sh true b n))) := by
 refine enter (n := 24) Tryz.func177 rfl Tryz.ntmps177 rfl ?_ hw
 refine csr (bxa fun b1 => ?_)
 refine alE fun b2 => lnf (cs2 (c_region (lE omi (lE oeq_ (lnf (c_no rfl (c_region (lE ofp (lE ofp (lE (oli 1) (lE omi (lE opl (lE ofp (lE ofp ?_))))))))))))))
 refine lu (mS 1 (#[Ix (b.id),Ix (b.x),Ix ((b.y) + (n)),Ix (b.vx),Ix (b.vy),Ix (b.w),Ix (b.h),.bool (b.round),.bool (b.fixed)])) (lnc (lE (olg 1) ?_))
 refine lu (mS 0 (#[Ix (b.id),Ix (b.x),Ix ((b.y) + (n)),Ix (b.vx),Ix (b.vy),Ix (b.w),Ix (b.h),.bool (b.round),.bool (b.fixed)])) (lnf (c_ret ?_))
 refine retG (m := [.agg #[Ix (b.id),Ix (b.x),Ix ((b.y) + (n)),Ix (b.vx),Ix (b.vy),Ix (b.w),Ix (b.h),.bool (b.round),.bool (b.fixed)]]) Tryz.results177 ⟨rd_cell tf22.ok rfl (k_pt 0 rfl rfl) rfl,trivial⟩ rfl ?_
 intro w hw
 exact ⟨rfl,st_mask [false,false] rfl hw⟩
theorem shift8_ok (β : Base) (w : World) (hw : St β [] w) (b : KB) (y : Bool) (al : UInt8) (hal : al = if y then 2 else 1) (n : Int) (hb : -1099511627776 ≤ co y b ∧ co y b ≤ 1099511627776) (hn : -1099511627776 ≤ n ∧ n ≤ 1099511627776) (c : KB) (hc : sh y b n = c) : Ret Tryz.prog 177 #[.agg (bC b), Bx al, Ix n] β w (.agg (bC c)) := by
 subst hc
 cases y
 ·have e : Bx al = .int .u8 1 := by rw [hal]; rfl
  rw [e]; exact shift8_1_ok β w hw b n hb hn
 have e : Bx al = .int .u8 2 := by rw [hal]; rfl
 rw [e]; exact shift8_2_ok β w hw b n hb hn
set_option maxHeartbeats 4000000 in
theorem inside8_ok (β : Base) (w : World) (hw : St β [] w) (b : KB) : Ret Tryz.prog 178 #[.agg (bC b)] β w (.bool (decide (inside b))) := by
 refine enter (n := 25) Tryz.func178 rfl Tryz.ntmps178 rfl ?_ hw
 refine csr (bxa fun b1 => ?_)
 refine lE oab (lnc (lE ofp (lE ofp (lE (oli 0) (lE oge (lE omb (l_split (s := 7) rfl (fun hg2 => ?_) (fun hg2 => ?_))))))))
 ·refine gE ofp (gE ofp (gE (oli 0) (gE ole (lE oktb (lE omb (l_split (s := 13) rfl (fun hg3 => ?_) (fun hg3 => ?_)))))))
  ·refine gE ofp (gE ofp (gE (oli 0) (gE oge (lE oktb (lE omb (l_split (s := 19) rfl (fun hg4 => ?_) (fun hg4 => ?_)))))))
   ·refine gE ofp (gE ofp (gE (oli 0) (gE ole (lE oktb (lE oab (lnf (c_ret (ret1 Tryz.results178 rfl ?_))))))))
    intro w hw
    exact ⟨congrArg (fun b : Bool => Ending.returned (.bool b)) (show decide ((b.y) ≤ (1048576 : Int)) = _ by first | (rw [eq_comm,decide_eq_false_iff_not]; unfold inside; omega) | exact decide_eq_decide.2 (by unfold inside; omega)),st_mask [false] rfl hw⟩
   refine skE (skE (skE (skE (lE okfb (lE oab (lnf (c_ret (ret1 Tryz.results178 rfl ?_))))))))
   intro w hw
   exact ⟨congrArg (fun b : Bool => Ending.returned (.bool b)) (show false = _ by first | (rw [eq_comm,decide_eq_false_iff_not]; unfold inside; omega) | exact decide_eq_decide.2 (by unfold inside; omega)),st_mask [false] rfl hw⟩
  refine skE (skE (skE (skE (lE okfb (lE omb (skE (skE (skE (skE (lE okfb (lE oab (lnf (c_ret (ret1 Tryz.results178 rfl ?_))))))))))))))
  intro w hw
  exact ⟨congrArg (fun b : Bool => Ending.returned (.bool b)) (show false = _ by first | (rw [eq_comm,decide_eq_false_iff_not]; unfold inside; omega) | exact decide_eq_decide.2 (by unfold inside; omega)),st_mask [false] rfl hw⟩
 refine skE (skE (skE (skE (lE okfb (lE omb (skE (skE (skE (skE (lE okfb (lE omb (skE (skE (skE (skE (lE okfb (lE oab (lnf (c_ret ?_)))))))))))))))))))
 refine ret1 Tryz.results178 rfl ?_
 intro w hw
 exact ⟨congrArg (fun b : Bool => Ending.returned (.bool b)) (show false = _ by first | (rw [eq_comm,decide_eq_false_iff_not]; unfold inside; omega) | exact decide_eq_decide.2 (by unfold inside; omega)),st_mask [false] rfl hw⟩
theorem far8_ok (β : Base) (w : World) (hw : St β [] w) (a b : KB) (ha : midB a) (hb : midB b) : Ret Tryz.prog 213 #[.agg (bC a), .agg (bC b)] β w (Ix (dist a b)) := by
 obtain ⟨a1,a2⟩ := ha
 obtain ⟨b1,b2⟩ := hb
 have q1 := sq_bd (x := a.x - b.x) (B := 4194304) (by omega) (by omega)
 have q2 := sq_bd (x := a.y - b.y) (B := 4194304) (by omega) (by omega)
 refine enter (n := 28) Tryz.func213 rfl Tryz.ntmps213 rfl ?_ hw
 refine csr (bxa fun b1 => ?_)
 refine bxa fun b2 => ?_
 refine lE oai (lnf (c_seq (c_quiet (by kernel_rfl) (by kernel_rfl) (qE ofp (qE ofp (qE (oli 1) (qE ofp (qE ofp (qE (oli 0) (qE omn (qE ofp (qE ofp ?_))))))))))))
 refine qE (oli 1) (qE ofp (qE ofp (qE (oli 0) (qE omn (qE oai (qE oai (q_nil (ftc (lE omi (lE omi (lE otm (lE omi (lE omi (lE otm (lE opl (lE oai ?_))))))))))))))))
 refine lnf (c_ret (ret1 Tryz.results213 rfl ?_))
 intro w hw
 exact ⟨rfl,st_mask [false,false] rfl hw⟩
set_option maxHeartbeats 4000000 in
theorem hits8_ok (β : Base) (w : World) (hw : St β [] w) (v rv : Value) (gx gy : Int) (bs : List KB) (rs : List KR) (hs : Sl KBR β.heap v bs) (hr : Sl KRR β.heap rv rs) (ho : ordB bs) (hbs : ∀ o ∈ bs, okB o) (hrs : ∀ r ∈ rs, okR bs r) (k : Nat) (b : KB) (hk : bs[k]? = some b) (nb : KB) : Ret Tryz.prog 179 #[.agg #[v, rv, Ix gx, Ix gy], Nx k, .agg (bC nb)] β w (Ix (hitI bs b nb)) := by
 obtain ⟨va,vc,rfl,vl,vm,ve⟩ := hs.get
 obtain ⟨rva,rvc,rfl,rvl,rvm,rve⟩ := hr.get
 have hkl := (List.getElem?_eq_some_iff.1 hk).1
 obtain ⟨hak,csk,hck,rfl⟩ := ve _ _ hk
 refine enter (n := 47) Tryz.func179 rfl Tryz.ntmps179 rfl ?_ hw
 refine csr (bxa fun b1 => ?_)
 refine bxa fun b2 => ?_
 refine lE oai (lnf (cs2 (c_region (lE oai (lnf (c_block ?_))))))
 refine c_loop (fun (i : Nat) f L => (f 1 = Nx (k) ∧ f 3 = pp b1 0 ∧ f 5 = pp b2 0 ∧ f 7 = Nx (i)) ∧ L = [pt b2 (.cells (bC nb) 52),pt b1 (.cells #[sB va bs (vc),sB rva rs (rvc),Ix (gx),Ix (gy)] 30)] ∧ (i ≤ bs.length ∧ ∀ j,j < i → ∀ z,bs[j]? = some z → ¬ (z.id ≠ b.id ∧ ¬ Stp.over z b ∧ Stp.over nb z))) (fun i => bs.length - i) 0 ?_ ?_
 ·exact ⟨⟨rfl,rfl,rfl,rfl⟩,rfl,⟨by omega,fun j hj => by omega⟩⟩
 rintro i f0 L0 ⟨⟨hs1,hs3,hs5,hs7⟩,hL,⟨hi,hp⟩⟩
 subst L0
 refine rbs 1 hs1 (rbs 3 hs3 (rbs 5 hs5 (rbs 7 hs7 (cs2 (c_region (lE omi (lE ofp (lE (ols 1) (lE oln (lE olt (lnf ?_)))))))))))
 refine c_if _ rfl (fun hc3 => ?_) (fun hc3 => ?_)
 ·refine csk (c_seq (c_block (c_seq (c_quiet (by kernel_rfl) (by kernel_rfl) (qE omi (qE omi (qE onq (qE omb ?_))))))))
  refine q_split (s := 18) rfl (fun hg4 => ?_) (fun hg4 => ?_)
  ·refine rE (olg 0) (rE ofp (rE (ols 1) (rE omi ?_)))
   obtain ⟨x5,hx6⟩ := getx bs i (by omega)
   obtain ⟨ha7,cs8,hc9,rfl⟩ := ve _ _ hx6
   refine rE (oia tf43 ha7) (qg_val (v := .agg (bC x5)) rfl rfl rfl rfl rfl (e_load tf22.ok rfl (kB hc9) rfl) ?_)
   refine qg_call (v := .bool (decide (Stp.over nb x5))) rfl rfl rfl rfl rfl (cl0 (vs := [.agg (bC nb),.agg (bC x5)]) tf121.ok rfl rfl) (fun w hw => ?_) ?_
   ·obtain ⟨β1,sb,kn,hw1,back⟩ := St.frame_all hw
    exact (over5_ok β1 w hw1 nb x5).mono (fun e w' ⟨he,hw'⟩ => ⟨he,st_mask [true,true] rfl (back _ _ hw')⟩)
   refine qE oktb (qE omb (q_split (s := 27) rfl (fun hg11 => ?_) (fun hg11 => ?_)))
   ·refine rE ofp (rE (ols 1) (rE omi (rE (oia tf43 hak) (qg_val (v := .agg (bC b)) rfl rfl rfl rfl rfl (e_load tf22.ok rfl (kB hck) rfl) (rE ofp ?_)))))
    refine rE (ols 1) (rE omi (rE (oia tf43 ha7) (qg_val (v := .agg (bC x5)) rfl rfl rfl rfl rfl (e_load tf22.ok rfl (kB hc9) rfl) ?_)))
    refine qg_call (v := .bool (decide (Stp.over b x5))) rfl rfl rfl rfl rfl (cl0 (vs := [.agg (bC b),.agg (bC x5)]) tf121.ok rfl rfl) (fun w hw => ?_) ?_
    ·obtain ⟨β1,sb,kn,hw1,back⟩ := St.frame_all hw
     exact (over5_ok β1 w hw1 b x5).mono (fun e w' ⟨he,hw'⟩ => ⟨he,st_mask [true,true] rfl (back _ _ hw')⟩)
    refine rE ond (qE oktb (q_nil (f_then (c_if _ rfl (fun hc12 => ?_) (fun hc12 => ?_)))))
    ·refine csr (lE ofp (lE (ols 1) (lE omi (lE (oia tf43 ha7) (lE ofa ?_)))))
     refine lv (v := Ix (x5.id)) (e_load1 tf2.ok rfl (Knows.imp (kB hc9) (fun _ h => Cs.sub (vs := [Ix (x5.id)]) 0 h rfl))) (lE oai (lnf (c_ret ?_)))
     refine f_block_ret (f_then_ret (f_then_ret (f_block_ret (f_then_ret (ret1 Tryz.results179 rfl ?_)))))
     intro w hw
     exact ⟨congrArg (fun z : Int => Ending.returned (Ix z)) (show x5.id = hitI bs b nb by unfold hitI; rw [hit_at hx6 ((id_iff ho hx6 hk).2 (by omega)) (fun q => hc12 ((over_comm _ _).1 q)) hg11 hp]; rfl),st_mask [false,false] rfl hw⟩
    refine c_skip (f_block (f_then (c_region (lE omi (lv (v := Nx (i + 1)) (e_add rfl rfl (i64n (by omega) (by omega))) (lE oai (l_nil ?_)))))))
    exact f_cut ⟨i + 1,⟨⟨rfl,rfl,rfl,rfl⟩,rfl,⟨by omega,hits_next hx6 hp (fun q => q.2.1 ((over_comm _ _).1 (Decidable.not_not.1 hc12)))⟩⟩,(show bs.length - (i + 1) < bs.length - i from by omega)⟩
   iterate 12 refine qsE ?_
   refine qE okfb (q_nil (f_then (c_no rfl (c_skip (f_block (f_then (c_region (lE omi ?_))))))))
   refine lv (v := Nx (i + 1)) (e_add rfl rfl (i64n (by omega) (by omega))) (lE oai (l_nil ?_))
   exact f_cut ⟨i + 1,⟨⟨rfl,rfl,rfl,rfl⟩,rfl,⟨by omega,hits_next hx6 hp (fun q => hg11 q.2.2)⟩⟩,(show bs.length - (i + 1) < bs.length - i from by omega)⟩
  iterate 7 refine qsE ?_
  refine qE okfb (qE omb ?_)
  iterate 12 refine qsE ?_
  refine qE okfb (q_nil (f_then (c_no rfl (c_skip (f_block (f_then (c_region (lE omi ?_))))))))
  refine lv (v := Nx (i + 1)) (e_add rfl rfl (i64n (by omega) (by omega))) (lE oai (l_nil ?_))
  obtain ⟨xq,hxq⟩ : ∃ z,bs[i]? = some z := ⟨_,List.getElem?_eq_getElem (by omega)⟩
  exact f_cut ⟨i + 1,⟨⟨rfl,rfl,rfl,rfl⟩,rfl,⟨by omega,hits_next hxq hp (fun q => absurd ((id_iff ho hxq hk).1 q.1) (by omega))⟩⟩,(show bs.length - (i + 1) < bs.length - i from by omega)⟩
 refine c_exit (f_then_exit (f_then_exit (f_exit (ftc (lE oai (lnf (c_ret (ret1 Tryz.results179 rfl ?_))))))))
 intro w hw
 exact ⟨congrArg (fun z : Int => Ending.returned (Ix z)) (show (-1 : Int) = hitI bs b nb by unfold hitI; rw [hit_no (m := i) (by omega) hp]; rfl),st_mask [false,false] rfl hw⟩
theorem find7K_ok (β : Base) (w : World) (hw : St β [] w) (v : Value) (xs : List KB) (hs : Sl KBR β.heap v xs) (i : Int) (k : Nat) (hk : idxI (fun y : KB => decide (y.id = i)) xs = k) : Ret Tryz.prog 70 #[v, Ix i] β w (Nx k) := by
 refine (find7_ok β w hw v xs hs i).mono ?_
 rintro r w' ⟨rfl,hw'⟩
 exact ⟨by rw [hk],hw'⟩
set_option maxHeartbeats 4000000 in
theorem held8_ok (β : Base) (w : World) (hw : St β [] w) (v rv : Value) (gx gy : Int) (bs : List KB) (rs : List KR) (hs : Sl KBR β.heap v bs) (hr : Sl KRR β.heap rv rs) (ho : ordB bs) (hbs : ∀ o ∈ bs, okB o) (hrs : ∀ r ∈ rs, okR bs r) (k : Nat) (b : KB) (hk : bs[k]? = some b) (nb : KB) (mid_nb : midB nb) (hid : nb.id = b.id) : Ret Tryz.prog 180 #[.agg #[v, rv, Ix gx, Ix gy], Nx k, .agg (bC nb)] β w (.bool (held bs rs b nb)) := by
 obtain ⟨va,vc,rfl,vl,vm,ve⟩ := hs.get
 obtain ⟨rva,rvc,rfl,rvl,rvm,rve⟩ := hr.get
 have hkl := (List.getElem?_eq_some_iff.1 hk).1
 obtain ⟨hak,csk,hck,rfl⟩ := ve _ _ hk
 have mid_b := (hbs _ (List.mem_of_getElem? hk)).mid
 refine enter (n := 67) Tryz.func180 rfl Tryz.ntmps180 rfl ?_ hw
 refine csr (bxa fun b1 => ?_)
 refine bxa fun b2 => ?_
 refine lE oab (lnf (cs2 (c_region (lE oai (lnf (c_block ?_))))))
 refine c_loop (fun (i : Nat) f L => (f 1 = Nx (k) ∧ f 3 = pp b1 0 ∧ f 5 = pp b2 0 ∧ f 7 = Nx (i)) ∧ L = [pt b2 (.cells (bC nb) 52),pt b1 (.cells #[sB va bs (vc),sB rva rs (rvc),Ix (gx),Ix (gy)] 30)] ∧ (i ≤ rs.length ∧ held bs (rs.take i) b nb = false)) (fun i => rs.length - i) 0 ?_ ?_
 ·exact ⟨⟨rfl,rfl,rfl,rfl⟩,rfl,⟨by omega,rfl⟩⟩
 rintro i f0 L0 ⟨⟨hs1,hs3,hs5,hs7⟩,hL,⟨hi,hp⟩⟩
 subst L0
 refine rbs 1 hs1 (rbs 3 hs3 (rbs 5 hs5 (rbs 7 hs7 (cs2 (c_region (lE omi (lE ofp (lE (ols 1) (lE oln (lE olt (lnf ?_)))))))))))
 refine c_if _ rfl (fun hc3 => ?_) (fun hc3 => ?_)
 ·refine csk (c_seq (c_block (csr (lE ofp (lE (ols 1) (lE omi ?_))))))
  obtain ⟨x4,hx5⟩ := getx rs i (by omega)
  obtain ⟨ha6,cs7,hc8,rfl⟩ := rve _ _ hx5
  refine lE (oia tf46 ha6) (lv (v := .agg #[Ix (x4.a),Ix (x4.b),Ix (x4.len)]) (e_load tf47.ok rfl (kB hc8) rfl) (alE fun b10 => ?_))
  refine lu (mS 0 (#[Ix (x4.a),Ix (x4.b),Ix (x4.len)])) (lnc (lE ofp (lE (oli 0) (lE oai (lnf (cs2 (c_region (lE ofp (lE (oli 0) (lE ofp (lE (oli 1) ?_)))))))))))
  refine lE oeq_ (lnf (c_if _ rfl (fun hc11 => ?_) (fun hc11 => ?_)))
  ·refine c_region (lE ofp (lE (oli 0) (lE oai (lnf (c_seq ?_)))))
   have he : x4.a = b.id ∨ x4.b = b.id := .inl (by rw [← hid]; exact hc11)
   have hok := hrs _ (List.mem_of_getElem? hx5)
   have hri := rope_ids hbs hok
   obtain ⟨o,hfo⟩ := end_found hok he
   have hen := endOf_some he hfo
   rw [show x4.a + x4.b - b.id = x4.b by omega] at hfo
   obtain ⟨kq,hkq,hx0⟩ := idx_body hfo
   have hk1 := (List.getElem?_eq_some_iff.1 hx0).1
   obtain ⟨ha0,cs0,hc0,rfl⟩ := ve _ _ hx0
   have mid_o := (hbs _ (List.mem_of_getElem? hx0)).mid
   have hq := sq_bd (x := x4.len) (B := 2097152) (by omega) (by omega)
   refine cny [sv 38 (pp b1 0) [] [] [0],sv 39 (sB va bs (vc)) [0] [0] [],sv 40 (pp b1 0) [] [] [0],sv 41 (sB va bs (vc)) [2] [2] [],sv 42 (Ix (x4.b)) [] [] [1],sv 43 (Nx (kq)) [2,3,4] [3,4] [],sv 44 (.pointer (some ((ba va).add (kq * 9)))) (List.range 6) [1,5] [],sv 45 (.agg (bC o)) (List.range 7) [6] [],⟨[],[],[],[10],fun f => f 10 = .pointer (some ⟨(blk (f 10)),0,none⟩)⟩,⟨(List.range 9),[8,7],[],[],fun _ => True⟩] [tk (pt b10 (.cells #[Ix (x4.a),Ix (x4.b),Ix (x4.len)] 78)) [],tk (pt b2 (.cells (bC nb) 52)) [],tk (pt b1 (.cells #[sB va bs (vc),sB rva rs (rvc),Ix (gx),Ix (gy)] 30)) [1,3],⟨(some 8),(some 9),[9],[10],fun f => pt (blk (f 10)) (.cells #[.int .i64 (0),.int .i64 (0),.int .i64 (0),.int .i64 (0),.int .i64 (0),.int .i64 (0),.int .i64 (0),.bool false,.bool false] 52)⟩,⟨(some 9),none,[],[10],fun f => pt (blk (f 10)) (.cells (bC o) 52)⟩] [(3,pp b1 0),(9,Ix (x4.b)),(1,Nx (k)),(5,pp b2 0),(7,Nx (i)),(8,pp b10 0)] [2,0,3,4,5] [] ⟨rfl,rfl,rfl,rfl,rfl,rfl,trivial⟩ ⟨?_,?_,?_,?_,?_,?_,?_,?_,?_,?_,trivial⟩ ?_
   ·rintro f M - ⟨i0,-⟩
    exact obE ofp
   ·rintro f M ⟨k0,-⟩ -
    exact obE (ols 0)
   ·rintro f M - ⟨i0,-⟩
    exact obE ofp
   ·rintro f M ⟨k0,-⟩ -
    exact obE (ols 0)
   ·rintro f M - ⟨i0,-⟩
    exact obE omi
   ·rintro f M ⟨k0,k1,-⟩ -
    refine ob_start (L' := M) (by rfl) (up_cons (d := 42) (up_cons (d := 41) rfl k0) k1) ?_
    refine lcR clA (fun w β1 sb kn hw1 => find7K_ok β1 w hw1 _ bs (Sl.mono _ _ _ _ _ sb (⟨⟨_,_,rfl,vl,vm,ve⟩⟩ : Sl KBR _ _ bs)) (x4.b) kq hkq) (l_nil ?_)
    exact f_owes_d (up_cons (d := 42) (up_cons (d := 41) rfl k0) k1) rfl (List.Perm.refl _)
   ·rintro f M ⟨k0,k1,-⟩ -
    exact ob0 (up_cons (d := 43) (up_cons (d := 39) rfl k0) k1) rfl (e_indexAddr rfl rfl tf43 (by omega) ha0) (.refl _)
   ·rintro f M ⟨k0,-⟩ -
    exact ob0 (up_cons (d := 44) rfl k0) rfl (e_load tf22.ok rfl (kB hc0) rfl) (.refl _)
   ·rintro f M - -
    refine ob_start (L' := M) (by rfl) rfl (alE fun b13 => l_nil ?_)
    exact f_owes_d rfl rfl (perm_front 0 rfl)
   ·rintro f M ⟨k0,k1,-⟩ -
    have hs10 : f 10 = .pointer (some ⟨(blk (f 10)),0,none⟩) := k0
    refine ob_start (L' := pt (blk (f 10)) (.cells #[.int .i64 (0),.int .i64 (0),.int .i64 (0),.int .i64 (0),.int .i64 (0),.int .i64 (0),.int .i64 (0),.bool false,.bool false] 52) :: M) (by rfl) (up_cons (d := 45) (up_cons rfl hs10) k1) ?_
    refine lu (mS 0 (bC o)) (l_nil ?_)
    exact f_owes_n (up_cons (d := 45) (up_cons rfl hs10) k1) trivial (perm_front 0 rfl)
   rintro fa14 ⟨-,-,-,-,-,-,-,-,k8,-,-⟩ ⟨j0,j1,j2,j3,j4,-⟩
   refine f_re (L' := [pt b10 (.cells #[Ix (x4.a),Ix (x4.b),Ix (x4.len)] 78),pt b2 (.cells (bC nb) 52),pt b1 (.cells #[sB va bs (vc),sB rva rs (rvc),Ix (gx),Ix (gy)] 30),pt (blk (fa14 10)) (.cells (bC o) 52)]) (by rfl) ?_
   refine f_rebase (d := 1) j0 (f_rebase (d := 3) j1 (f_rebase (d := 5) j2 (f_rebase (d := 7) j3 (f_rebase (d := 8) j4 (f_rebase (d := 10) k8 (ftc ?_))))))
   refine lE (olg 1) (lE (olg 3) (lcR clA (fun w β1 sb kn hw1 => far8_ok β1 w hw1 nb o mid_nb mid_o) (lE oai (lnf (c_seq ?_)))))
   refine c_quiet (by kernel_rfl) (by kernel_rfl) (qE omi (qE ofp (qE (oli 0) (qE ofp (qE (oli 0) (qE otm (qE ogt (qE omb ?_))))))))
   refine q_split (s := 56) rfl (fun hg15 => ?_) (fun hg15 => ?_)
   ·refine rE omi (rE ofp (rE (ols 2) (rE omi (rE (oia tf43 hak) (qg_val (v := .agg (bC b)) rfl rfl rfl rfl rfl (e_load tf22.ok rfl (kB hck) rfl) ?_)))))
    refine rE (olg 3) (qg_call (v := Ix (Stp.dist b o)) rfl rfl rfl rfl rfl (cl0 (vs := [.agg (bC b),.agg (bC o)]) tf123.ok rfl rfl) (fun w hw => ?_) ?_)
    ·obtain ⟨β1,sb,kn,hw1,back⟩ := St.frame_all hw
     exact (far8_ok β1 w hw1 b o mid_b mid_o).mono (fun e w' ⟨he,hw'⟩ => ⟨he,st_mask [true,true,true,true] rfl (back _ _ hw')⟩)
    refine rE ogt (qE oktb (q_nil (f_then (c_if _ rfl (fun hc16 => ?_) (fun hc16 => ?_)))))
    ·refine csr (lE oab (lnf (c_ret (f_block_ret (f_then_ret (f_then_ret (f_block_ret (f_then_ret (ret1 Tryz.results180 rfl ?_)))))))))
     intro w hw
     exact ⟨congrArg (fun b : Bool => Ending.returned (.bool b)) (held_prefix (k := i + 1) (by rw [held_snoc hx5,hen]; simp only [Bool.or_eq_true,decide_eq_true_eq]; right; omega)).symm,st_mask [false,false,false,false] rfl hw⟩
    refine c_skip (f_block (f_then (c_region (lE omi (lv (v := Nx (i + 1)) (e_add rfl rfl (i64n (by omega) (by omega))) (lE oai (l_nil ?_)))))))
    refine f_mask [false,true,true,false] rfl ?_
    exact f_cut ⟨i + 1,⟨⟨rfl,rfl,rfl,rfl⟩,rfl,⟨by omega,by rw [held_snoc hx5,hen,hp]; simp only [sB,rB,Bool.false_or,decide_eq_false_iff_not]; omega⟩⟩,(show rs.length - (i + 1) < rs.length - i from by omega)⟩
   iterate 9 refine qsE ?_
   refine qE okfb (q_nil (f_then (c_no rfl (c_skip (f_block (f_then (c_region (lE omi ?_))))))))
   refine lv (v := Nx (i + 1)) (e_add rfl rfl (i64n (by omega) (by omega))) (lE oai (l_nil (f_mask [false,true,true,false] rfl ?_)))
   exact f_cut ⟨i + 1,⟨⟨rfl,rfl,rfl,rfl⟩,rfl,⟨by omega,by rw [held_snoc hx5,hen,hp]; simp only [sB,rB,Bool.false_or,decide_eq_false_iff_not]; omega⟩⟩,(show rs.length - (i + 1) < rs.length - i from by omega)⟩
  refine csr (lE ofp (lE (oli 0) (lE ofp (lE (oli 1) (lE onq (lnf (c_if _ rfl (fun hc17 => ?_) (fun hc17 => ?_))))))))
  ·refine c_exit (f_then_exit (f_exit (f_then (c_region (lE omi (lv (v := Nx (i + 1)) (e_add rfl rfl (i64n (by omega) (by omega))) (lE oai (l_nil ?_))))))))
   refine f_mask [false,true,true] rfl ?_
   exact f_cut ⟨i + 1,⟨⟨rfl,rfl,rfl,rfl⟩,rfl,⟨by omega,by rw [held_snoc hx5,endOf_skip (by rw [← hid]; exact hc11) (by rw [← hid]; exact hc17),hp]; rfl⟩⟩,(show rs.length - (i + 1) < rs.length - i from by omega)⟩
  refine csk (c_seq ?_)
  have he : x4.a = b.id ∨ x4.b = b.id := .inr (by rw [← hid]; exact Decidable.not_not.1 hc17)
  have hok := hrs _ (List.mem_of_getElem? hx5)
  have hri := rope_ids hbs hok
  obtain ⟨o,hfo⟩ := end_found hok he
  have hen := endOf_some he hfo
  rw [show x4.a + x4.b - b.id = x4.a by omega] at hfo
  obtain ⟨kq,hkq,hx0⟩ := idx_body hfo
  have hk1 := (List.getElem?_eq_some_iff.1 hx0).1
  obtain ⟨ha0,cs0,hc0,rfl⟩ := ve _ _ hx0
  have mid_o := (hbs _ (List.mem_of_getElem? hx0)).mid
  have hq := sq_bd (x := x4.len) (B := 2097152) (by omega) (by omega)
  refine cny [sv 38 (pp b1 0) [] [] [0],sv 39 (sB va bs (vc)) [0] [0] [],sv 40 (pp b1 0) [] [] [0],sv 41 (sB va bs (vc)) [2] [2] [],sv 42 (Ix (x4.a)) [] [] [1],sv 43 (Nx (kq)) [2,3,4] [3,4] [],sv 44 (.pointer (some ((ba va).add (kq * 9)))) (List.range 6) [1,5] [],sv 45 (.agg (bC o)) (List.range 7) [6] [],⟨[],[],[],[10],fun f => f 10 = .pointer (some ⟨(blk (f 10)),0,none⟩)⟩,⟨(List.range 9),[8,7],[],[],fun _ => True⟩] [tk (pt b10 (.cells #[Ix (x4.a),Ix (x4.b),Ix (x4.len)] 78)) [],tk (pt b2 (.cells (bC nb) 52)) [],tk (pt b1 (.cells #[sB va bs (vc),sB rva rs (rvc),Ix (gx),Ix (gy)] 30)) [1,3],⟨(some 8),(some 9),[9],[10],fun f => pt (blk (f 10)) (.cells #[.int .i64 (0),.int .i64 (0),.int .i64 (0),.int .i64 (0),.int .i64 (0),.int .i64 (0),.int .i64 (0),.bool false,.bool false] 52)⟩,⟨(some 9),none,[],[10],fun f => pt (blk (f 10)) (.cells (bC o) 52)⟩] [(3,pp b1 0),(9,Ix (x4.a)),(1,Nx (k)),(5,pp b2 0),(7,Nx (i)),(8,pp b10 0)] [2,0,3,4,5] [] ⟨rfl,rfl,rfl,rfl,rfl,rfl,trivial⟩ ⟨?_,?_,?_,?_,?_,?_,?_,?_,?_,?_,trivial⟩ ?_
  ·rintro f M - ⟨i0,-⟩
   exact obE ofp
  ·rintro f M ⟨k0,-⟩ -
   exact obE (ols 0)
  ·rintro f M - ⟨i0,-⟩
   exact obE ofp
  ·rintro f M ⟨k0,-⟩ -
   exact obE (ols 0)
  ·rintro f M - ⟨i0,-⟩
   exact obE omi
  ·rintro f M ⟨k0,k1,-⟩ -
   refine ob_start (L' := M) (by rfl) (up_cons (d := 42) (up_cons (d := 41) rfl k0) k1) ?_
   refine lcR clA (fun w β1 sb kn hw1 => find7K_ok β1 w hw1 _ bs (Sl.mono _ _ _ _ _ sb (⟨⟨_,_,rfl,vl,vm,ve⟩⟩ : Sl KBR _ _ bs)) (x4.a) kq hkq) (l_nil ?_)
   exact f_owes_d (up_cons (d := 42) (up_cons (d := 41) rfl k0) k1) rfl (List.Perm.refl _)
  ·rintro f M ⟨k0,k1,-⟩ -
   exact ob0 (up_cons (d := 43) (up_cons (d := 39) rfl k0) k1) rfl (e_indexAddr rfl rfl tf43 (by omega) ha0) (.refl _)
  ·rintro f M ⟨k0,-⟩ -
   exact ob0 (up_cons (d := 44) rfl k0) rfl (e_load tf22.ok rfl (kB hc0) rfl) (.refl _)
  ·rintro f M - -
   refine ob_start (L' := M) (by rfl) rfl (alE fun b19 => l_nil ?_)
   exact f_owes_d rfl rfl (perm_front 0 rfl)
  ·rintro f M ⟨k0,k1,-⟩ -
   have hs10 : f 10 = .pointer (some ⟨(blk (f 10)),0,none⟩) := k0
   refine ob_start (L' := pt (blk (f 10)) (.cells #[.int .i64 (0),.int .i64 (0),.int .i64 (0),.int .i64 (0),.int .i64 (0),.int .i64 (0),.int .i64 (0),.bool false,.bool false] 52) :: M) (by rfl) (up_cons (d := 45) (up_cons rfl hs10) k1) ?_
   refine lu (mS 0 (bC o)) (l_nil ?_)
   exact f_owes_n (up_cons (d := 45) (up_cons rfl hs10) k1) trivial (perm_front 0 rfl)
  rintro fa20 ⟨-,-,-,-,-,-,-,-,k8,-,-⟩ ⟨j0,j1,j2,j3,j4,-⟩
  refine f_re (L' := [pt b10 (.cells #[Ix (x4.a),Ix (x4.b),Ix (x4.len)] 78),pt b2 (.cells (bC nb) 52),pt b1 (.cells #[sB va bs (vc),sB rva rs (rvc),Ix (gx),Ix (gy)] 30),pt (blk (fa20 10)) (.cells (bC o) 52)]) (by rfl) ?_
  refine f_rebase (d := 1) j0 (f_rebase (d := 3) j1 (f_rebase (d := 5) j2 (f_rebase (d := 7) j3 (f_rebase (d := 8) j4 (f_rebase (d := 10) k8 (ftc ?_))))))
  refine lE (olg 1) (lE (olg 3) (lcR clA (fun w β1 sb kn hw1 => far8_ok β1 w hw1 nb o mid_nb mid_o) (lE oai (lnf (c_seq ?_)))))
  refine c_quiet (by kernel_rfl) (by kernel_rfl) (qE omi (qE ofp (qE (oli 0) (qE ofp (qE (oli 0) (qE otm (qE ogt (qE omb ?_))))))))
  refine q_split (s := 56) rfl (fun hg21 => ?_) (fun hg21 => ?_)
  ·refine rE omi (rE ofp (rE (ols 2) (rE omi (rE (oia tf43 hak) (qg_val (v := .agg (bC b)) rfl rfl rfl rfl rfl (e_load tf22.ok rfl (kB hck) rfl) ?_)))))
   refine rE (olg 3) (qg_call (v := Ix (Stp.dist b o)) rfl rfl rfl rfl rfl (cl0 (vs := [.agg (bC b),.agg (bC o)]) tf123.ok rfl rfl) (fun w hw => ?_) ?_)
   ·obtain ⟨β1,sb,kn,hw1,back⟩ := St.frame_all hw
    exact (far8_ok β1 w hw1 b o mid_b mid_o).mono (fun e w' ⟨he,hw'⟩ => ⟨he,st_mask [true,true,true,true] rfl (back _ _ hw')⟩)
   refine rE ogt (qE oktb (q_nil (f_then (c_if _ rfl (fun hc22 => ?_) (fun hc22 => ?_)))))
   ·refine csr (lE oab (lnf (c_ret (f_block_ret (f_then_ret (f_then_ret (f_block_ret (f_then_ret (ret1 Tryz.results180 rfl ?_)))))))))
    intro w hw
    exact ⟨congrArg (fun b : Bool => Ending.returned (.bool b)) (held_prefix (k := i + 1) (by rw [held_snoc hx5,hen]; simp only [Bool.or_eq_true,decide_eq_true_eq]; right; omega)).symm,st_mask [false,false,false,false] rfl hw⟩
   refine c_skip (f_block (f_then (c_region (lE omi (lv (v := Nx (i + 1)) (e_add rfl rfl (i64n (by omega) (by omega))) (lE oai (l_nil ?_)))))))
   refine f_mask [false,true,true,false] rfl ?_
   exact f_cut ⟨i + 1,⟨⟨rfl,rfl,rfl,rfl⟩,rfl,⟨by omega,by rw [held_snoc hx5,hen,hp]; simp only [sB,rB,Bool.false_or,decide_eq_false_iff_not]; omega⟩⟩,(show rs.length - (i + 1) < rs.length - i from by omega)⟩
  iterate 9 refine qsE ?_
  refine qE okfb (q_nil (f_then (c_no rfl (c_skip (f_block (f_then (c_region (lE omi ?_))))))))
  refine lv (v := Nx (i + 1)) (e_add rfl rfl (i64n (by omega) (by omega))) (lE oai (l_nil (f_mask [false,true,true,false] rfl ?_)))
  exact f_cut ⟨i + 1,⟨⟨rfl,rfl,rfl,rfl⟩,rfl,⟨by omega,by rw [held_snoc hx5,hen,hp]; simp only [sB,rB,Bool.false_or,decide_eq_false_iff_not]; omega⟩⟩,(show rs.length - (i + 1) < rs.length - i from by omega)⟩
 refine c_exit (f_then_exit (f_then_exit (f_exit (ftc (lE oab (lnf (c_ret (ret1 Tryz.results180 rfl ?_))))))))
 intro w hw
 exact ⟨congrArg (fun b : Bool => Ending.returned (.bool b)) (show false = held bs rs b nb by rw [List.take_of_length_le (by omega)] at hp; exact hp.symm),st_mask [false,false] rfl hw⟩
set_option maxHeartbeats 4000000 in
theorem move8_ok (β : Base) (w : World) (hw : St β [] w) (v rv : Value) (gx gy : Int) (bs : List KB) (rs : List KR) (hs : Sl KBR β.heap v bs) (hr : Sl KRR β.heap rv rs) (ho : ordB bs) (hbs : ∀ o ∈ bs, okB o) (hrs : ∀ r ∈ rs, okR bs r) (k : Nat) (b : KB) (hk : bs[k]? = some b) (y : Bool) (al : UInt8) (hal : al = if y then 2 else 1) (n : Int) (hn : -4096 ≤ n ∧ n ≤ 4096) : Ret Tryz.prog 118 #[.agg #[v, rv, Ix gx, Ix gy], Nx k, Bx al, Ix n] β w (.tuple #[.agg #[Ix ((sh y b (sgn n * ((runM bs rs b y n).1 : Nat))).id), Ix ((sh y b (sgn n * ((runM bs rs b y n).1 : Nat))).x), Ix ((sh y b (sgn n * ((runM bs rs b y n).1 : Nat))).y), Ix ((sh y b (sgn n * ((runM bs rs b y n).1 : Nat))).vx), Ix ((sh y b (sgn n * ((runM bs rs b y n).1 : Nat))).vy), Ix ((sh y b (sgn n * ((runM bs rs b y n).1 : Nat))).w), Ix ((sh y b (sgn n * ((runM bs rs b y n).1 : Nat))).h), .bool ((sh y b (sgn n * ((runM bs rs b y n).1 : Nat))).round), .bool ((sh y b (sgn n * ((runM bs rs b y n).1 : Nat))).fixed)], .bool (runM bs rs b y n).2.isSome, Ix ((runM bs rs b y n).2.getD 0)]) := by
 obtain ⟨va,vc,rfl,vl,vm,ve⟩ := hs.get
 obtain ⟨rva,rvc,rfl,rvl,rvm,rve⟩ := hr.get
 have hkl := (List.getElem?_eq_some_iff.1 hk).1
 obtain ⟨hak,csk,hck,rfl⟩ := ve _ _ hk
 have hokb := hbs _ (List.mem_of_getElem? hk)
 have hco := hokb.co y
 refine enter (n := 60) Tryz.func118 rfl Tryz.ntmps118 rfl ?_ hw
 refine csr (bxa fun b1 => ?_)
 refine alE fun b2 => lE oab (lE oai (lnc (lE ofp (lE (ols 1) (lE omi (lE (oia tf43 hak) (lv (v := .agg (bC b)) (e_load tf22.ok rfl (kB hck) rfl) ?_)))))))
 refine alE fun b3 => lu (mS 0 (bC b)) (lnc (lE oai (lnf ?_)))
 refine c_seq_cut (fun (f : Fm) (L : List Res) => ∃ (s : Int),(f 1 = Nx (k) ∧ f 2 = Bx (al) ∧ f 3 = Ix (n) ∧ f 4 = pp b1 0 ∧ f 8 = pp b2 0 ∧ f 11 = pp b3 0 ∧ f 12 = Ix (s)) ∧ L = [pt b3 (.cells (bC b) 52),pt b2 (.cells #[.int .i64 (0),.int .i64 (0),.int .i64 (0),.int .i64 (0),.int .i64 (0),.int .i64 (0),.int .i64 (0),.bool false,.bool false] 52),pt b1 (.cells #[sB va bs (vc),sB rva rs (rvc),Ix (gx),Ix (gy)] 30)] ∧ (s = sgn n)) ?_ ?_
 ·refine csr (lE omi (lE olt (lnf (c_if _ rfl (fun hc4 => ?_) (fun hc4 => ?_)))))
  ·refine c_region (lE oai (l_nil ?_))
   exact f_cut ⟨(-1),⟨rfl,rfl,rfl,rfl,rfl,rfl,rfl⟩,rfl,(by unfold sgn; rw [if_pos]; exact hc4)⟩
  refine c_skip ?_
  exact f_cut ⟨1,⟨rfl,rfl,rfl,rfl,rfl,rfl,rfl⟩,rfl,(by unfold sgn; rw [if_neg]; exact hc4)⟩
 rintro f0 L0 ⟨s,⟨hs1,hs2,hs3,hs4,hs8,hs11,hs12⟩,hL,hsn⟩
 subst L0
 refine rbs 1 hs1 (rbs 2 hs2 (rbs 3 hs3 (rbs 4 hs4 (rbs 8 hs8 (rbs 11 hs11 (rbs 12 hs12 ?_))))))
 have hsb : s = 1 ∨ s = -1 := hsn ▸ sgn_or n
 refine cs2 (c_region (lE omi (lE oai (lnf (c_block ?_)))))
 refine c_loop (fun (x_ : Nat × KB × Int) f L => match x_ with | (m,C,jv) => (f 1 = Nx (k) ∧ f 2 = Bx (al) ∧ f 3 = Ix (n) ∧ f 4 = pp b1 0 ∧ f 8 = pp b2 0 ∧ f 11 = pp b3 0 ∧ f 12 = Ix (s) ∧ f 13 = Ix (jv)) ∧ L = [pt b3 (.cells (bC C) 52),pt b2 (.cells #[.int .i64 (0),.int .i64 (0),.int .i64 (0),.int .i64 (0),.int .i64 (0),.int .i64 (0),.int .i64 (0),.bool false,.bool false] 52),pt b1 (.cells #[sB va bs (vc),sB rva rs (rvc),Ix (gx),Ix (gy)] 30)] ∧ (m ≤ n.natAbs ∧ sh y b (sgn n * ((m : Nat) : Int)) = C ∧ jv = s * ((m + 1 : Nat) : Int) ∧ ∀ i : Nat,0 < i → i ≤ m → stopB bs rs b (sh y b (sgn n * i)) = none)) (fun (m,C,jv) => n.natAbs - m) (0,b,s) ?_ ?_
 ·exact ⟨⟨rfl,rfl,rfl,rfl,rfl,rfl,rfl,rfl⟩,rfl,⟨by omega,by rw [show sgn n * ((0 : Nat) : Int) = 0 by omega,sh_zero],by rcases hsb with e | e <;> rw [e] <;> rfl,fun i h1 h2 => by omega⟩⟩
 rintro ⟨m,C,jv⟩ f0 L0 ⟨⟨hs1,hs2,hs3,hs4,hs8,hs11,hs12,hs13⟩,hL,⟨hm,hC,hjv,hst⟩⟩
 subst L0
 refine rbs 1 hs1 (rbs 2 hs2 (rbs 3 hs3 (rbs 4 hs4 (rbs 8 hs8 (rbs 11 hs11 (rbs 12 hs12 (rbs 13 hs13 ?_)))))))
 have hjb : -4097 ≤ jv ∧ jv ≤ 4097 := by rw [hjv]; rcases hsb with e | e <;> rw [e] <;> omega
 refine cs2 (c_region (lE omi (lE omi (lE omi (lE opl (lE onq (lnf (c_if _ rfl (fun hc5 => ?_) (fun hc5 => ?_)))))))))
 ·refine csk (c_seq (c_block (c_seq ?_)))
  have hmn := move_lt hsn hm (by rw [← hjv]; exact hc5)
  obtain ⟨nx,hnx⟩ : ∃ z,sh y b jv = z := ⟨_,rfl⟩
  have hst1 : stopB bs rs b (sh y b (sgn n * ((m + 1 : Nat) : Int))) = stopB bs rs b nx := by rw [← hnx,hjv,hsn]
  refine c_region (lE ofp (lE (ols 2) (lE omi (lE (oia tf43 hak) (lv (v := .agg (bC b)) (e_load tf22.ok rfl (kB hck) rfl) (lE omi (lE omi ?_)))))))
  refine lcR clA (fun w β1 sb kn hw1 => shift8_ok β1 w hw1 b y al hal (jv) (by omega) (by omega) nx hnx) (alE fun b6 => lu (mS 0 (bC nx)) (lnf (cs2 ?_)))
  refine c_region (lE (olg 0) (lcR clA (fun w β1 sb kn hw1 => inside8_ok β1 w hw1 nx) (lE ond (lnf (c_if _ rfl (fun hc7 => ?_) (fun hc7 => ?_))))))
  ·refine csr (lE (olg 1) (lu (mS 2 (bC C)) (lE oab (lE oai (lnf (c_ret (f_then_ret (f_block_ret (f_then_ret (f_then_ret (f_block_ret (f_then_ret ?_))))))))))))
   refine retG (m := [.agg (bC C),.bool true,.int .i64 (-1)]) Tryz.results118 ⟨rd_cell tf22.ok rfl (k_pt 2 rfl rfl) rfl,rd_tmp (v := .bool true) rfl,rd_tmp (v := .int .i64 (-1)) rfl,trivial⟩ rfl ?_
   intro w hw
   have he := move_stop hst hmn (by rw [hst1]; exact stop_out hc7)
   exact ⟨by rw [he,hC]; rfl,st_mask [false,false,false,false] rfl hw⟩
  refine csk (c_seq ?_)
  have hin := Decidable.not_not.1 hc7
  have hsi := stop_in (rs := rs) (b := b) hin (fun o ho => (hbs o ho).1.1)
  refine c_region (lE (olg 3) (lE omi (lE (olg 0) ?_)))
  refine lcR clA (fun w β1 sb kn hw1 => hits8_ok β1 w hw1 _ _ gx gy bs rs (Sl.mono _ _ _ _ _ sb (⟨⟨_,_,rfl,vl,vm,ve⟩⟩ : Sl KBR _ _ bs)) (Sl.mono _ _ _ _ _ sb (⟨⟨_,_,rfl,rvl,rvm,rve⟩⟩ : Sl KRR _ _ rs)) ho hbs hrs k b hk nx) ?_
  refine lE oai (lnf (cs2 (c_region (lE omi (lE oge (lE omb (l_split (s := 50) rfl (fun hg8 => ?_) (fun hg8 => ?_))))))))
  ·refine skE (skE (skE (skE (lE oktb (lnf (c_yes rfl (csr (lE (olg 1) (lE omi (lu (mS 2 (bC C)) (lE oab (lE oai (lnf (c_ret (f_then_ret (f_block_ret ?_))))))))))))))))
   refine f_then_ret (f_then_ret (f_block_ret (f_then_ret ?_)))
   refine retG (m := [.agg (bC C),.bool true,Ix (hitI bs b nx)]) Tryz.results118 ⟨rd_cell tf22.ok rfl (k_pt 2 rfl rfl) rfl,rd_tmp (v := .bool true) rfl,rd_tmp (v := Ix (hitI bs b nx)) rfl,trivial⟩ rfl ?_
   intro w hw
   have he := move_stop hst hmn (by rw [hst1,hsi,if_pos (.inl hg8)])
   exact ⟨by rw [he,hC]; rfl,st_mask [false,false,false,false] rfl hw⟩
  refine gE (olg 3) (gE omi (gE (olg 0) ?_))
  refine g_call rfl rfl rfl rfl rfl (cl0 (vs := [.agg #[sB va bs (vc),sB rva rs (rvc),Ix (gx),Ix (gy)],Nx (k),.agg (bC nx)]) tf127.ok rfl rfl) ?_
  intro w hw
  obtain ⟨β1,sb,kn,hw1,back⟩ := St.frame_all hw
  refine (held8_ok β1 w hw1 _ _ gx gy bs rs (Sl.mono _ _ _ _ _ sb (⟨⟨_,_,rfl,vl,vm,ve⟩⟩ : Sl KBR _ _ bs)) (Sl.mono _ _ _ _ _ sb (⟨⟨_,_,rfl,rvl,rvm,rve⟩⟩ : Sl KRR _ _ rs)) ho hbs hrs k b hk nx (ok_of_inside' hokb hnx hin).mid (by rw [← hnx,sh_id])).mono ?_
  rintro e w' ⟨rfl,hw'⟩
  refine ⟨_,rfl,_,back _ _ hw',?_⟩
  clear hw hw1 hw' back kn sb
  refine lE okfb (lnf (c_ifb (held bs rs b nx) rfl (fun hc9 => ?_) (fun hc9 => ?_)))
  ·refine csr (lE (olg 1) (lE omi (lu (mS 2 (bC C)) (lE oab (lE oai (lnf (c_ret (f_then_ret (f_block_ret (f_then_ret (f_then_ret (f_block_ret ?_))))))))))))
   refine f_then_ret ?_
   refine retG (m := [.agg (bC C),.bool true,Ix (hitI bs b nx)]) Tryz.results118 ⟨rd_cell tf22.ok rfl (k_pt 2 rfl rfl) rfl,rd_tmp (v := .bool true) rfl,rd_tmp (v := Ix (hitI bs b nx)) rfl,trivial⟩ rfl ?_
   intro w hw
   have he := move_stop hst hmn (by rw [hst1,hsi,if_pos (.inr hc9)])
   exact ⟨by rw [he,hC]; rfl,st_mask [false,false,false,false] rfl hw⟩
  refine csk ?_
  have hnone : stopB bs rs b (sh y b (sgn n * ((m + 1 : Nat) : Int))) = none := by rw [hst1,hsi,if_neg (by rintro (q | q); exact hg8 q; rw [hc9] at q; cases q)]
  refine c_region (lE (olg 0) (lu (mS 1 (bC nx)) (l_nil (f_block (f_then (c_region (lE omi (lE omi (lE opl (lE oai (l_nil ?_)))))))))))
  refine f_mask [false,true,true,true] rfl ?_
  exact f_cut ⟨(m + 1,nx,jv + s),⟨⟨rfl,rfl,rfl,rfl,rfl,rfl,rfl,rfl⟩,rfl,⟨by omega,by rw [← hnx,hjv,hsn],by rw [hjv]; rcases hsb with e | e <;> rw [e] <;> omega,stops_next hst hnone⟩⟩,(show n.natAbs - (m + 1) < n.natAbs - m from by omega)⟩
 refine c_exit (f_then_exit (f_then_exit (f_exit (ftc (lE (olg 0) (lu (mS 1 (bC C)) (lE oab (lE oai (lnf (c_ret ?_))))))))))
 refine retG (m := [.agg (bC C),.bool false,.int .i64 (0)]) Tryz.results118 ⟨rd_cell tf22.ok rfl (k_pt 1 rfl rfl) rfl,rd_tmp (v := .bool false) rfl,rd_tmp (v := .int .i64 (0)) rfl,trivial⟩ rfl ?_
 intro w hw
 have he := move_end hst (move_eq hsn hm (by rw [← hjv]; exact Decidable.not_not.1 hc5))
 exact ⟨by rw [he,hC]; rfl,st_mask [false,false,false] rfl hw⟩
end Go.Proofs
