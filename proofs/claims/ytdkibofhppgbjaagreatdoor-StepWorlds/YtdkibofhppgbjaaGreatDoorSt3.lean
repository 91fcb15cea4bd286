/-
 Scenes: what island.Valid answers. Printed by a program of my own.
-/
import Derived.Test.YtdkibofhppgbjaaGreatDoorSt2
import Derived.Test.YtdkibofhppgbjaaGreatDoorSlB
namespace Go.Proofs
open Go Go.Sl Go.Stp
theorem fnv_all {P : Program} {α : Type} {β : Base} {fn : Value} {enc : α → List Value} {S : α → Prop} {res : α → Value} (h : FnV P β fn enc (fun _ => True) res) : FnV P β fn enc S res := by
 obtain ⟨g,fst,cap,e,hc,hk⟩ := h
 exact ⟨g,fst,cap,e,hc,fun β₁ h1 x _ => hk β₁ h1 x trivial⟩
noncomputable instance (bs : List KB) (rs : List KR) (gx gy : Int) : Decidable (okS bs rs gx gy) := Classical.propDecidable _
theorem valid_end {bs : List KB} {rs : List KR} {gx gy : Int} (h1 : bs.length ≤ 64) (h2 : rs.length ≤ 32) (h3 : okV gx gy) (h4 : ∀ b ∈ bs, okB b) (h5 : ordB bs) : (!(rs.any fun z => decide (¬ okR bs z))) = decide (okS bs rs gx gy) := by
 rw [Bool.eq_iff_iff,decide_eq_true_iff]
 simp only [sB,rB,Bool.not_eq_true',List.any_eq_false,decide_eq_true_eq,Decidable.not_not]
 exact ⟨fun h => ⟨h1,h2,h3,h4,h5,h⟩,fun h => h.2.2.2.2.2⟩
instance tf45 : UndC Tryz.prog 26 78 := ⟨by kernel_rfl⟩
theorem tf46 : slB Tryz.prog 26 78 3 = true := by kernel_rfl
instance tf47 : TyC Tryz.prog 78 true 3 := ⟨by kernel_rfl⟩
instance tf48 : CfC Tryz.prog 143 := ⟨by kernel_rfl⟩
instance tf49 : FldC Tryz.prog 30 0 0 1 false := ⟨by kernel_rfl⟩
instance tf50 : TyC Tryz.prog 25 false 1 := ⟨by kernel_rfl⟩
instance tf51 : FldC Tryz.prog 78 0 0 1 false := ⟨by kernel_rfl⟩
instance tf52 : CfC Tryz.prog 48 := ⟨by kernel_rfl⟩
instance tf53 : FldC Tryz.prog 78 1 1 1 false := ⟨by kernel_rfl⟩
instance tf54 : FldC Tryz.prog 78 2 2 1 false := ⟨by kernel_rfl⟩
instance tf55 : FldC Tryz.prog 30 1 1 1 false := ⟨by kernel_rfl⟩
instance tf56 : TyC Tryz.prog 26 false 1 := ⟨by kernel_rfl⟩
instance tf57 : FldC Tryz.prog 30 2 2 2 true := ⟨by kernel_rfl⟩
instance tf58 : ZerC Tryz.prog 52 (.agg #[.int .i64 (0), .int .i64 (0), .int .i64 (0), .int .i64 (0), .int .i64 (0), .int .i64 (0), .int .i64 (0), .bool false, .bool false]) := ⟨by kernel_rfl⟩
instance tf59 : CfC Tryz.prog 86 := ⟨by kernel_rfl⟩
set_option maxHeartbeats 4000000 in
theorem indexR_ok (β : Base) (w : World) (hw : St β [] w) (v fn : Value) (xs : List KR) (hs : Sl KRR β.heap v xs) (p : KR → Bool) (hfn : FnV Tryz.prog β fn (fun z : KR => [.agg #[Ix (z.a), Ix (z.b), Ix (z.len)]]) (· ∈ xs) (fun z => .bool (p z))) : Ret Tryz.prog 143 #[v, fn] β w (Ix (idxI p xs)) := by
 obtain ⟨va,vc,rfl,vl,vm,ve⟩ := hs.get
 obtain ⟨gg,fst,cap,rfl,hcf,hf⟩ := hfn
 refine enter (n := 19) Tryz.func143 rfl Tryz.ntmps143 rfl ?_ hw
 refine csr (lE oai (lnf (cs2 (c_region (lE oms (lE oln (lE omi (lnf (c_block ?_)))))))))
 refine c_loop (fun (k : Nat) f L => (f 0 = sB va xs (vc) ∧ f 1 = .func (.func gg) fst.toArray cap.toArray ∧ f 7 = Nx (xs.length) ∧ f 8 = Nx (k)) ∧ L = [] ∧ (k ≤ xs.length ∧ ∀ y ∈ xs.take k,p y = false)) (fun k => xs.length - k) 0 ?_ ?_
 ·exact ⟨⟨rfl,rfl,rfl,rfl⟩,rfl,⟨by omega,fun y hy => by simp at hy⟩⟩
 rintro k f0 L0 ⟨⟨hs0,hs1,hs7,hs8⟩,hL,⟨hk,hp⟩⟩
 subst L0
 refine rbs 0 hs0 (rbs 1 hs1 (rbs 7 hs7 (rbs 8 hs8 (csr (lE olt (lnf (c_seq (c_if _ rfl (fun hc1 => ?_) (fun hc1 => ?_)))))))))
 ·refine csk (c_seq (c_block (csr (lE omi (lE oai (lnc (lE omf (lE oms (lE omi ?_)))))))))
  obtain ⟨x2,hx2⟩ := getx xs k (by omega)
  obtain ⟨ha4,cs5,hc6,rfl⟩ := ve _ _ hx2
  refine lE (oia tf46 ha4) (lv (v := .agg #[Ix (x2.a),Ix (x2.b),Ix (x2.len)]) (e_load tf47.ok rfl (kB hc6) rfl) ?_)
  refine l_call rfl rfl rfl (cl_value (fst := fst) (cap := cap) (vs := [.agg #[Ix (x2.a),Ix (x2.b),Ix (x2.len)]]) (all := fst ++ [.agg #[Ix (x2.a),Ix (x2.b),Ix (x2.len)]] ++ cap) hcf rfl rfl rfl) ?_
  intro w hw
  obtain ⟨β1,sb,kn,hw1,back⟩ := St.frame_all hw
  refine (hf β1 sb x2 (List.mem_of_getElem? hx2) w hw1).mono ?_
  rintro e w' ⟨rfl,hw'⟩
  refine ⟨_,rfl,_,back _ _ hw',?_⟩
  clear hw hw1 hw' back kn sb
  refine lnf (c_ifb (p x2) rfl (fun hc8 => ?_) (fun hc8 => ?_))
  ·refine csr (lE omi (lE oai (lnf (c_ret (f_block_ret (f_then_ret (f_then_ret (f_block_ret (f_then_ret (ret1 Tryz.results143 rfl ?_))))))))))
   intro w hw
   exact ⟨congrArg (fun z : Int => Ending.returned (Ix z)) (idx_found hx2 hc8 hp).symm,st_mask [] rfl hw⟩
  refine c_skip (f_block (f_then (c_region (lv (v := Nx (k + 1)) (e_add rfl rfl (i64n (by omega) (by omega))) (lE omi (l_nil ?_))))))
  exact f_cut ⟨k + 1,⟨⟨rfl,rfl,rfl,rfl⟩,rfl,⟨by omega,idx_next hx2 hc8 hp⟩⟩,(show xs.length - (k + 1) < xs.length - k from by omega)⟩
 refine c_exit (f_then_exit (f_then_exit (f_exit (ftc (lE oai (lnf (c_ret (ret1 Tryz.results143 rfl ?_))))))))
 intro w hw
 exact ⟨congrArg (fun z : Int => Ending.returned (Ix z)) (idx_none (by omega) hp).symm,st_mask [] rfl hw⟩
set_option maxHeartbeats 4000000 in
theorem indexB_ok (β : Base) (w : World) (hw : St β [] w) (v fn : Value) (xs : List KB) (hs : Sl KBR β.heap v xs) (p : KB → Bool) (hfn : FnV Tryz.prog β fn (fun z : KB => [.agg (bC z)]) (· ∈ xs) (fun z => .bool (p z))) : Ret Tryz.prog 67 #[v, fn] β w (Ix (idxI p xs)) := by
 obtain ⟨va,vc,rfl,vl,vm,ve⟩ := hs.get
 obtain ⟨gg,fst,cap,rfl,hcf,hf⟩ := hfn
 refine enter (n := 19) Tryz.func67 rfl Tryz.ntmps67 rfl ?_ hw
 refine csr (lE oai (lnf (cs2 (c_region (lE oms (lE oln (lE omi (lnf (c_block ?_)))))))))
 refine c_loop (fun (k : Nat) f L => (f 0 = sB va xs (vc) ∧ f 1 = .func (.func gg) fst.toArray cap.toArray ∧ f 7 = Nx (xs.length) ∧ f 8 = Nx (k)) ∧ L = [] ∧ (k ≤ xs.length ∧ ∀ y ∈ xs.take k,p y = false)) (fun k => xs.length - k) 0 ?_ ?_
 ·exact ⟨⟨rfl,rfl,rfl,rfl⟩,rfl,⟨by omega,fun y hy => by simp at hy⟩⟩
 rintro k f0 L0 ⟨⟨hs0,hs1,hs7,hs8⟩,hL,⟨hk,hp⟩⟩
 subst L0
 refine rbs 0 hs0 (rbs 1 hs1 (rbs 7 hs7 (rbs 8 hs8 (csr (lE olt (lnf (c_seq (c_if _ rfl (fun hc1 => ?_) (fun hc1 => ?_)))))))))
 ·refine csk (c_seq (c_block (csr (lE omi (lE oai (lnc (lE omf (lE oms (lE omi ?_)))))))))
  obtain ⟨x2,hx2⟩ := getx xs k (by omega)
  obtain ⟨ha4,cs5,hc6,rfl⟩ := ve _ _ hx2
  refine lE (oia tf43 ha4) (lv (v := .agg (bC x2)) (e_load tf22.ok rfl (kB hc6) rfl) ?_)
  refine l_call rfl rfl rfl (cl_value (fst := fst) (cap := cap) (vs := [.agg (bC x2)]) (all := fst ++ [.agg (bC x2)] ++ cap) hcf rfl rfl rfl) ?_
  intro w hw
  obtain ⟨β1,sb,kn,hw1,back⟩ := St.frame_all hw
  refine (hf β1 sb x2 (List.mem_of_getElem? hx2) w hw1).mono ?_
  rintro e w' ⟨rfl,hw'⟩
  refine ⟨_,rfl,_,back _ _ hw',?_⟩
  clear hw hw1 hw' back kn sb
  refine lnf (c_ifb (p x2) rfl (fun hc8 => ?_) (fun hc8 => ?_))
  ·refine csr (lE omi (lE oai (lnf (c_ret (f_block_ret (f_then_ret (f_then_ret (f_block_ret (f_then_ret (ret1 Tryz.results67 rfl ?_))))))))))
   intro w hw
   exact ⟨congrArg (fun z : Int => Ending.returned (Ix z)) (idx_found hx2 hc8 hp).symm,st_mask [] rfl hw⟩
  refine c_skip (f_block (f_then (c_region (lv (v := Nx (k + 1)) (e_add rfl rfl (i64n (by omega) (by omega))) (lE omi (l_nil ?_))))))
  exact f_cut ⟨k + 1,⟨⟨rfl,rfl,rfl,rfl⟩,rfl,⟨by omega,idx_next hx2 hc8 hp⟩⟩,(show xs.length - (k + 1) < xs.length - k from by omega)⟩
 refine c_exit (f_then_exit (f_then_exit (f_exit (ftc (lE oai (lnf (c_ret (ret1 Tryz.results67 rfl ?_))))))))
 intro w hw
 exact ⟨congrArg (fun z : Int => Ending.returned (Ix z)) (idx_none (by omega) hp).symm,st_mask [] rfl hw⟩
theorem containsR_ok (β : Base) (w : World) (hw : St β [] w) (v fn : Value) (xs : List KR) (hs : Sl KRR β.heap v xs) (p : KR → Bool) (hfn : FnV Tryz.prog β fn (fun z : KR => [.agg #[Ix (z.a), Ix (z.b), Ix (z.len)]]) (· ∈ xs) (fun z => .bool (p z))) : Ret Tryz.prog 86 #[v, fn] β w (.bool (xs.any p)) := by
 refine enter (n := 9) Tryz.func86 rfl Tryz.ntmps86 rfl ?_ hw
 refine csr (lE oab (lnc (lv e_move (lv e_move (lcR clA (fun w β1 sb kn hw1 => indexR_ok β1 w hw1 _ _ xs (Sl.mono _ _ _ _ _ sb hs) p (hfn.mono sb)) ?_)))))
 refine lE oge (lE oab (lnf (c_ret (ret1 Tryz.results86 rfl ?_))))
 intro w hw
 exact ⟨congrArg Ending.returned (congrArg Value.bool (idx_any p xs)),st_mask [] rfl hw⟩
theorem valid1_fn (β : Base) (c : Nat) (v rv : Value) (gx gy : Int) (bs : List KB) (hc : Cs β.heap ⟨c, 0, none⟩ [v, rv, Ix gx, Ix gy]) (hs : Sl KBR β.heap v bs) (ho : ordB bs) (hn : bs.length ≤ 1048576) : FnV Tryz.prog β (.func (.func 87) #[] #[pp c 0]) (fun z : KR => [.agg #[Ix (z.a), Ix (z.b), Ix (z.len)]]) (fun _ => True) (fun z => .bool (decide (¬ okR bs z))) := by
 refine ⟨87,[],[.pointer (some (⟨c,0,none⟩))],rfl,by kernel_rfl,fun β₁ sb0 z_ hz_ w hw => ?_⟩
 have hc1 := Cs.mono _ _ _ _ sb0 hc
 have hs1 := Sl.mono _ _ _ _ _ sb0 hs
 obtain ⟨r,hr⟩ : ∃ r,r = z_ := ⟨_,rfl⟩
 subst hr
 refine enter (n := 47) Tryz.func87 rfl Tryz.ntmps87 rfl ?_ hw
 refine csr (bxa fun b1 => ?_)
 refine lE oab (lnc (lE ofa (lv (v := v) (e_load1 tf50.ok rfl (Knows.imp (kB hc1) (fun _ h => Cs.sub (vs := [v]) 0 h rfl))) (lE ofp (lE (oli 0) ?_)))))
 refine lcR clA (fun w β1 sb kn hw1 => find_ok β1 w hw1 _ bs (Sl.mono _ _ _ _ _ sb hs1) (r.a) ho (by omega)) (lE omt (lE oxi (lE oxb (lE oai ?_))))
 refine lE oab (lnc (lE ofa (lv (v := v) (e_load1 tf50.ok rfl (Knows.imp (kB hc1) (fun _ h => Cs.sub (vs := [v]) 0 h rfl))) (lE ofp (lE (oli 0) ?_)))))
 refine lcR clA (fun w β1 sb kn hw1 => find_ok β1 w hw1 _ bs (Sl.mono _ _ _ _ _ sb hs1) (r.b) ho (by omega)) (lE omt (lE oxi (lE oxb (lE oai ?_))))
 refine lE oab (lnc (lE omb (lE ont (lE omb (l_splitb (s := 26) (b := !((findB bs (r.a)).isSome)) rfl (fun hg2 => ?_) (fun hg2 => ?_))))))
 ·refine skE (skE (lE oktb (lE omb ?_)))
  iterate 5 refine skE ?_
  refine lE oktb (lE omb (skE (skE (skE (lE oktb (lE omb (skE (skE (skE (lE oktb (lE oab (lnf (c_ret (ret1 Tryz.results87 rfl ?_))))))))))))))
  intro w hw
  exact ⟨congrArg (fun b : Bool => Ending.returned (.bool b)) (show true = decide (¬ okR bs r) by unfold okR; simp_all <;> omega),st_mask [false] rfl hw⟩
 refine gE omb (gE ont (lE okfb (lE omb (l_splitb (s := 30) (b := !((findB bs (r.b)).isSome)) rfl (fun hg3 => ?_) (fun hg3 => ?_)))))
 ·iterate 5 refine skE ?_
  refine lE oktb (lE omb (skE (skE (skE (lE oktb (lE omb (skE (skE (skE (lE oktb (lE oab (lnf (c_ret (ret1 Tryz.results87 rfl ?_))))))))))))))
  intro w hw
  exact ⟨congrArg (fun b : Bool => Ending.returned (.bool b)) (show true = decide (¬ okR bs r) by unfold okR; simp_all <;> omega),st_mask [false] rfl hw⟩
 refine gE ofp (gE (oli 0) (gE ofp (gE (oli 0) (gE oge (lE okfb (lE omb (l_split (s := 37) rfl (fun hg4 => ?_) (fun hg4 => ?_))))))))
 ·refine skE (skE (skE (lE oktb (lE omb (skE (skE (skE (lE oktb (lE oab (lnf (c_ret (ret1 Tryz.results87 rfl ?_))))))))))))
  intro w hw
  exact ⟨congrArg (fun b : Bool => Ending.returned (.bool b)) (show true = decide (¬ okR bs r) by unfold okR; simp_all <;> omega),st_mask [false] rfl hw⟩
 refine gE ofp (gE (oli 0) (gE olt (lE okfb (lE omb (l_split (s := 42) rfl (fun hg5 => ?_) (fun hg5 => ?_))))))
 ·refine skE (skE (skE (lE oktb (lE oab (lnf (c_ret (ret1 Tryz.results87 rfl ?_)))))))
  intro w hw
  exact ⟨congrArg (fun b : Bool => Ending.returned (.bool b)) (show true = decide (¬ okR bs r) by unfold okR; simp_all <;> omega),st_mask [false] rfl hw⟩
 refine gE ofp (gE (oli 0) (gE ogt (lE okfb (lE oab (lnf (c_ret (ret1 Tryz.results87 rfl ?_)))))))
 intro w hw
 exact ⟨congrArg (fun b : Bool => Ending.returned (.bool b)) (show decide ((2097152 : Int) < (r.len)) = decide (¬ okR bs r) by unfold okR; simp_all <;> omega),st_mask [false] rfl hw⟩
set_option maxHeartbeats 4000000 in
theorem ivalid_ok (β : Base) (w : World) (hw : St β [] w) (v rv : Value) (gx gy : Int) (bs : List KB) (rs : List KR) (hs : Sl KBR β.heap v bs) (hr : Sl KRR β.heap rv rs) (hgx : -9223372036854775808 ≤ gx ∧ gx ≤ 9223372036854775807) (hgy : -9223372036854775808 ≤ gy ∧ gy ≤ 9223372036854775807) : Ret Tryz.prog 36 #[.agg #[v, rv, Ix gx, Ix gy]] β w (.bool (decide (okS bs rs gx gy))) := by
 obtain ⟨va,vc,rfl,vl,vm,ve⟩ := hs.get
 obtain ⟨rva,rvc,rfl,rvl,rvm,rve⟩ := hr.get
 refine enter (n := 54) Tryz.func36 rfl Tryz.ntmps36 rfl ?_ hw
 refine csr (bxa fun b1 => ?_)
 refine lE oab (lnf (cs2 (c_region (lE ofp (lE (ols 0) (lE oln (lE ogt (lE omb (l_split (s := 9) rfl (fun hg2 => ?_) (fun hg2 => ?_))))))))))
 ·refine skE (skE (skE (skE (lE oktb (lE omb (skE (skE (skE (skE (lE oktb (lnf (c_yes rfl (csr (lE oab (lnf (c_ret (f_then_ret ?_)))))))))))))))))
  refine ret1 Tryz.results36 rfl ?_
  intro w hw
  exact ⟨congrArg (fun b : Bool => Ending.returned (.bool b)) (decide_eq_false fun h => by have q1 := h.1; have q2 := h.2.1; omega).symm,st_mask [false] rfl hw⟩
 refine gE ofp (gE (ols 0) (gE oln (gE ogt (lE okfb (lE omb (l_split (s := 15) rfl (fun hg3 => ?_) (fun hg3 => ?_)))))))
 ·refine skE (skE (skE (skE (lE oktb (lnf (c_yes rfl (csr (lE oab (lnf (c_ret (f_then_ret (ret1 Tryz.results36 rfl ?_))))))))))))
  intro w hw
  exact ⟨congrArg (fun b : Bool => Ending.returned (.bool b)) (decide_eq_false fun h => by have q1 := h.1; have q2 := h.2.1; omega).symm,st_mask [false] rfl hw⟩
 refine gE ofp (gE (olg 0) (g_call rfl rfl rfl rfl rfl (cl0 (vs := [.agg #[Ix (gx),Ix (gy)]]) tf34.ok rfl rfl) ?_))
 intro w hw
 obtain ⟨β1,sb,kn,hw1,back⟩ := St.frame_all hw
 refine (pull_ok β1 w hw1 (gx) (gy) (by omega) (by omega)).mono ?_
 rintro e w' ⟨rfl,hw'⟩
 refine ⟨_,rfl,_,back _ _ hw',?_⟩
 clear hw hw1 hw' back kn sb
 refine gE ond (lE okfb (lnf (c_if _ rfl (fun hc4 => ?_) (fun hc4 => ?_))))
 ·refine csr (lE oab (lnf (c_ret (f_then_ret (ret1 Tryz.results36 rfl ?_)))))
  intro w hw
  exact ⟨congrArg (fun b : Bool => Ending.returned (.bool b)) (decide_eq_false fun h => by have q1 := h.1; have q2 := h.2.1; exact hc4 h.2.2.1).symm,st_mask [false] rfl hw⟩
 refine csk (cs2 ?_)
 have hov := Decidable.not_not.1 hc4
 refine c_region (lE ofp (lE (ols 0) (lE oln (lE omi (lnf (c_block (c_mask [true] rfl ?_)))))))
 refine c_loop (fun (k : Nat) f L => (f 1 = pp b1 0 ∧ f 22 = sB va bs (vc) ∧ f 23 = Nx (bs.length) ∧ f 24 = Nx (k)) ∧ L = [pt b1 (.cells #[sB va bs (vc),sB rva rs (rvc),Ix (gx),Ix (gy)] 30)] ∧ (k ≤ bs.length ∧ (∀ b ∈ bs.take k,okB b) ∧ ∀ i a b,i + 1 < k → bs[i]? = some a → bs[i + 1]? = some b → a.id < b.id)) (fun k => bs.length - k) 0 ?_ ?_
 ·exact ⟨⟨rfl,rfl,rfl,rfl⟩,rfl,⟨by omega,fun y hy => by simp at hy,fun i a b h => by omega⟩⟩
 rintro k f0 L0 ⟨⟨hs1,hs22,hs23,hs24⟩,hL,⟨hk,hp1,hp2⟩⟩
 subst L0
 refine rbs 1 hs1 (rbs 22 hs22 (rbs 23 hs23 (rbs 24 hs24 (csr (lE olt (lnf (c_seq (c_if _ rfl (fun hc5 => ?_) (fun hc5 => ?_)))))))))
 ·refine csk (c_seq (c_block (csr (lE omi ?_))))
  obtain ⟨x6,hx7⟩ := getx bs k (by omega)
  obtain ⟨ha8,cs9,hc10,rfl⟩ := ve _ _ hx7
  refine lE (oia tf43 ha8) (lv (v := .agg (bC x6)) (e_load tf22.ok rfl (kB hc10) rfl) (alE fun b12 => lE oai (lu (mS 0 (bC x6)) (lnf (c_seq ?_)))))
  refine c_quiet (by kernel_rfl) (by kernel_rfl) (qE (olg 0) ?_)
  refine q_call (v := .bool (decide (okB x6))) rfl rfl rfl (cl0 (vs := [.agg (bC x6)]) tf24.ok rfl rfl) (fun w hw => ?_) ?_
  ·obtain ⟨β1,sb,kn,hw1,back⟩ := St.frame_all hw
   exact (valid_ok β1 w hw1 x6).mono (fun e w' ⟨he,hw'⟩ => ⟨he,st_mask [true,true] rfl (back _ _ hw')⟩)
  refine qE ond (qE omb (q_split (s := 32) rfl (fun hg13 => ?_) (fun hg13 => ?_)))
  ·refine qsE (qsE (qsE (q_skip_u rfl rfl rfl rfl rfl (q_skip_u rfl rfl rfl rfl rfl (q_skip_u rfl rfl rfl rfl rfl (q_skip_u rfl rfl rfl rfl rfl ?_))))))
   refine q_skip_u rfl rfl rfl rfl rfl (q_skip_u rfl rfl rfl rfl rfl (q_skip_u rfl rfl rfl rfl rfl (q_skip_u rfl rfl rfl rfl rfl ?_)))
   refine q_skip_u rfl rfl rfl rfl rfl (q_skip_u rfl rfl rfl rfl rfl (qsE (qE oktb (q_nil (f_then (c_yes rfl (csr (lE oab (lnf (c_ret (f_block_ret ?_)))))))))))
   refine f_then_ret (f_then_ret (f_block_ret (f_then_ret (ret1 Tryz.results36 rfl ?_))))
   intro w hw
   exact ⟨congrArg (fun b : Bool => Ending.returned (.bool b)) (decide_eq_false fun h => hg13 (h.2.2.2.1 _ (List.mem_of_getElem? hx7))).symm,st_mask [false,false] rfl hw⟩
  have hok := Decidable.not_not.1 hg13
  refine rE omi (rE ogt (rE omb (q_split (s := 35) rfl (fun hg14 => ?_) (fun hg14 => ?_))))
  ·have hk0 : 0 < k := by omega
   refine rE ofp (rE (oli 0) (rE ofp (rE (ols 1) (rE omi ?_))))
   refine qg_val (v := Nx (k - 1)) rfl rfl rfl rfl rfl (ev_eq (congrArg (Value.int .i64) (by omega)) (e_sub (a := ((k : Nat) : Int)) (b := (1 : Int)) rfl rfl (i64w (by omega)))) ?_
   obtain ⟨x15,hx16⟩ := getx bs (k - 1) (by omega)
   obtain ⟨ha17,cs18,hc19,rfl⟩ := ve _ _ hx16
   refine rE (oia tf43 ha17) (rE ofa ?_)
   refine qg_val (v := Ix (x15.id)) rfl rfl rfl rfl rfl (e_load1 tf2.ok rfl (Knows.imp (kB hc19) (fun _ h => Cs.sub (vs := [Ix (x15.id)]) 0 h rfl))) ?_
   refine rE ole (rE oktb (qE okfb (q_nil (f_then (c_if _ rfl (fun hc21 => ?_) (fun hc21 => ?_))))))
   ·refine csr (lE oab (lnf (c_ret (f_block_ret (f_then_ret (f_then_ret (f_block_ret (f_then_ret (ret1 Tryz.results36 rfl ?_)))))))))
    intro w hw
    exact ⟨congrArg (fun b : Bool => Ending.returned (.bool b)) (decide_eq_false fun h => absurd (h.2.2.2.2.1 (k - 1) x15 x6 hx16 (by rw [show k - 1 + 1 = k by omega]; exact hx7)) (by omega)).symm,st_mask [false,false] rfl hw⟩
   refine c_skip (f_block (f_then (c_region (lv (v := Nx (k + 1)) (e_add rfl rfl (i64n (by omega) (by omega))) (lE omi (l_nil ?_))))))
   refine f_mask [false,true] rfl ?_
   exact f_cut ⟨k + 1,⟨⟨rfl,rfl,rfl,rfl⟩,rfl,⟨by omega,okS_next hx7 hp1 hok,ord_next hx7 hp2 (fun _ z hz => by rw [hx16] at hz; injection hz with hz; rw [← hz]; omega)⟩⟩,(show bs.length - (k + 1) < bs.length - k from by omega)⟩
  iterate 10 refine qsE ?_
  refine rE okfb (qE okfb (q_nil (f_then (c_no rfl (c_skip (f_block (f_then (c_region ?_))))))))
  refine lv (v := Nx (k + 1)) (e_add rfl rfl (i64n (by omega) (by omega))) (lE omi (l_nil (f_mask [false,true] rfl ?_)))
  exact f_cut ⟨k + 1,⟨⟨rfl,rfl,rfl,rfl⟩,rfl,⟨by omega,okS_next hx7 hp1 hok,ord_next hx7 hp2 (fun hk' => absurd hk' (by omega))⟩⟩,(show bs.length - (k + 1) < bs.length - k from by omega)⟩
 refine c_exit (f_then_exit (f_then_exit (f_exit (ftc (lE ofp (lE (ols 0) ?_))))))
 refine lv (v := .func (.func 87) #[] #[pp b1 0]) (e_func (u := []) (v := [pp b1 0]) rfl rfl) ?_
 refine lcR clA (fun w β1 sb kn hw1 => containsR_ok β1 w hw1 _ _ rs (Sl.mono _ _ _ _ _ sb (⟨⟨_,_,rfl,rvl,rvm,rve⟩⟩ : Sl KRR _ _ rs)) (fun z => decide (¬ okR bs z)) (fnv_all (valid1_fn β1 b1 _ _ gx gy bs (kn _ (k_pt 0 (o := 0) rfl rfl)) (Sl.mono _ _ _ _ _ sb (⟨⟨_,_,rfl,vl,vm,ve⟩⟩ : Sl KBR _ _ bs)) (ord_all (by omega) hp2) (by omega)))) ?_
 refine lE ont (lE oab (lnf (c_ret (ret1 Tryz.results36 rfl ?_))))
 intro w hw
 exact ⟨congrArg (fun b : Bool => Ending.returned (.bool b)) (valid_end (by omega) (by omega) hov (ok_all (by omega) hp1) (ord_all (by omega) hp2)),st_mask [false] rfl hw⟩
end Go.Proofs
