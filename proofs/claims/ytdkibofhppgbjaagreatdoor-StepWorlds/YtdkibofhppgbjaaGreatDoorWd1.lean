/-
 The reference's walks over worlds. Printed by a program of my own.
-/
import Derived.Test.YtdkibofhppgbjaaGreatDoorSt24
import Derived.Test.YtdkibofhppgbjaaGreatDoorWdLent
import Derived.Test.YtdkibofhppgbjaaGreatDoorSt18
import Derived.Test.YtdkibofhppgbjaaGreatDoorSlB
namespace Go.Stp
open Go.Sl
theorem first_no {cm : List KComp} {k : Nat} {x : KComp} {kd : UInt8} (hx : cm[k]? = some x) (h : ∀ z ∈ cm.take k, decide (z.kind = kd) = false) (hn : x.kind ≠ kd) : ∀ z ∈ cm.take (k + 1), decide (z.kind = kd) = false := fun z hz => by
 rw [List.take_add_one,hx] at hz
 rcases List.mem_append.1 hz with hz | hz
 ·exact h z hz
 simp at hz; rw [hz]; exact decide_eq_false hn
theorem has_yes {bs : List KB} {i : Int} (h : 0 ≤ idxI (fun y : KB => decide (y.id = i)) bs) : hasB bs i = true := by unfold hasB; rw [← idx_any]; exact decide_eq_true h
theorem has_no {bs : List KB} {i : Int} (h : ¬ 0 ≤ idxI (fun y : KB => decide (y.id = i)) bs) : hasB bs i = false := by unfold hasB; rw [← idx_any]; exact decide_eq_false h
theorem idxK_cases (cm : List KComp) (kd : UInt8) : idxI (fun c : KComp => decide (c.kind = kd)) cm < 0 ∧ firstC cm kd = none ∨ ∃ (i : Nat) (c : KComp), idxI (fun c : KComp => decide (c.kind = kd)) cm = (i : Int) ∧ cm[i]? = some c ∧ firstC cm kd = some c ∧ i < cm.length := by
 rcases idxI_cases (fun c : KComp => decide (c.kind = kd)) cm with ⟨h1,h2⟩ | ⟨i,h1,h2,h3⟩
 ·refine .inl ⟨h1,?_⟩
  rw [List.findIdx?_eq_none_iff] at h2
  exact List.find?_eq_none.2 fun c hc => by simpa using h2 c hc
 obtain ⟨c,g1,g2,g3⟩ := find_idx h2
 exact .inr ⟨i,c,h1,g1,g3,h3⟩
end Go.Stp
namespace Go.Proofs
open Go Go.Sl Go.Stp
section
variable {P : Program} {ro : Option Nat} {n : Nat} {ds : List Deferred} {β : Base} {Q : Exit → Act → World → Prop} {f : Fm} {L : List Res} {ops : Array Oper} {rest : List Oper}
variable {d : Option Tmp} {ty : TypeId} {ps : String} {af : Array Edge} {g : Option (Nat × Bool)}
theorem e_indexArrK {x y : Operand} {t len e n k b o : Nat} {ik : IntKind} (hx : ev f x = .pointer (some ⟨b, o, none⟩)) (hy : ev f y = .int ik (k : Int)) (ht : arB P t len e n = true) (hk : k < len) :
  EV P β L f ⟨d,.indexAddr t x y,ty,ps,af,g⟩ (.pointer (some ⟨b,o + k * n,none⟩)) := fun w _ => by
 have e0 : (⟨b,o,none⟩ : Addr).add (k * n) = ⟨b,o + k * n,none⟩ := by unfold Addr.add; split <;> simp_all
 rw [← e0]
 unfold arB at ht
 simp only [Bool.and_eq_true] at ht
 obtain ⟨h1,h2⟩ := ht
 cases hu : P.underlying t with
 | none => rw [hu] at h1; cases h1
 | some dd =>
  rw [hu] at h1
  cases dd <;> simp only [] at h1 <;> try (cases h1)
  rename_i l' e'
  have he : l' = len ∧ e' = e := by simpa using h1
  obtain ⟨rfl,rfl⟩ := he
  cases hi : P.info? e' with
  | none => rw [hi] at h2; cases h2
  | some i =>
   rw [hi] at h2
   have hn : i.size = n := by simpa using h2
   simp only [sB,rB,execOp,hx,hy,Instr.indexAt,Instr.sureAddr,asIntOf,Sem.run_bind,run_underlying hu,Sem.run_pure,Result.andThen_ok]
   simp [hk,sizeOf,typeInfo,hi,hn]
end
instance tw0 : FldC Tryz.prog 59 1 1 1 false := ⟨by kernel_rfl⟩
instance tw1 : TyC Tryz.prog 57 false 1 := ⟨by kernel_rfl⟩
instance tw2 : UndC Tryz.prog 57 120 := ⟨by kernel_rfl⟩
theorem tw3 : slB Tryz.prog 57 120 5 = true := by kernel_rfl
instance tw4 : FldC Tryz.prog 120 0 0 1 false := ⟨by kernel_rfl⟩
instance tw5 : TyC Tryz.prog 5 false 1 := ⟨by kernel_rfl⟩
instance tw6 : ZerC Tryz.prog 52 (.agg #[.int .i64 (0), .int .i64 (0), .int .i64 (0), .int .i64 (0), .int .i64 (0), .int .i64 (0), .int .i64 (0), .bool false, .bool false]) := ⟨by kernel_rfl⟩
instance tw7 : TyC Tryz.prog 59 true 2 := ⟨by kernel_rfl⟩
instance tw8 : CfC Tryz.prog 72 := ⟨by kernel_rfl⟩
theorem tw9 : stB Tryz.prog 52 [(0, 1), (1, 2), (3, 2), (5, 1), (6, 1), (7, 1), (8, 1)] = true := by kernel_rfl
instance tw10 : TyC Tryz.prog 52 true 9 := ⟨by kernel_rfl⟩
instance tw11 : FldC Tryz.prog 120 1 1 4 true := ⟨by kernel_rfl⟩
instance tw12 : TyC Tryz.prog 118 true 4 := ⟨by kernel_rfl⟩
instance tw13 : ZerC Tryz.prog 118 (.agg #[.int .i64 (0), .int .i64 (0), .int .i64 (0), .int .i64 (0)]) := ⟨by kernel_rfl⟩
instance tw14 : FldC Tryz.prog 59 0 0 1 false := ⟨by kernel_rfl⟩
instance tw15 : TyC Tryz.prog 3 false 1 := ⟨by kernel_rfl⟩
instance tw16 : ArrC Tryz.prog 118 4 3 1 := ⟨by kernel_rfl⟩
theorem tw17 : stB Tryz.prog 28 [(0, 1), (1, 1)] = true := by kernel_rfl
instance tw18 : ZerC Tryz.prog 28 (.agg #[.int .i64 (0), .int .i64 (0)]) := ⟨by kernel_rfl⟩
instance tw19 : FldC Tryz.prog 52 6 8 1 false := ⟨by kernel_rfl⟩
instance tw20 : TyC Tryz.prog 4 false 1 := ⟨by kernel_rfl⟩
instance tw21 : FldC Tryz.prog 52 2 3 2 true := ⟨by kernel_rfl⟩
instance tw22 : TyC Tryz.prog 28 true 2 := ⟨by kernel_rfl⟩
instance tw23 : ZerC Tryz.prog 30 (.agg #[.slice none 0 0, .slice none 0 0, .int .i64 (0), .int .i64 (0)]) := ⟨by kernel_rfl⟩
theorem tw24 : stB Tryz.prog 30 [(0, 1), (1, 1), (2, 2)] = true := by kernel_rfl
instance tw25 : TyC Tryz.prog 30 true 4 := ⟨by kernel_rfl⟩
instance tw26 : FldC Tryz.prog 24 1 1 1 false := ⟨by kernel_rfl⟩
instance tw27 : TyC Tryz.prog 22 false 1 := ⟨by kernel_rfl⟩
instance tw28 : UndC Tryz.prog 22 59 := ⟨by kernel_rfl⟩
theorem tw29 : slB Tryz.prog 22 59 2 = true := by kernel_rfl
instance tw30 : CfC Tryz.prog 69 := ⟨by kernel_rfl⟩
instance tw31 : FldC Tryz.prog 30 0 0 1 false := ⟨by kernel_rfl⟩
instance tw32 : TyC Tryz.prog 25 false 1 := ⟨by kernel_rfl⟩
theorem tw33 : slB Tryz.prog 25 52 9 = true := by kernel_rfl
theorem tw34 : elB Tryz.prog 52 9 64 = true := by kernel_rfl
instance tw35 : UndC Tryz.prog 26 78 := ⟨by kernel_rfl⟩
theorem tw36 : slB Tryz.prog 26 78 3 = true := by kernel_rfl
instance tw37 : FldC Tryz.prog 78 0 0 1 false := ⟨by kernel_rfl⟩
instance tw38 : CfC Tryz.prog 70 := ⟨by kernel_rfl⟩
instance tw39 : FldC Tryz.prog 78 1 1 1 false := ⟨by kernel_rfl⟩
instance tw40 : FldC Tryz.prog 30 1 1 1 false := ⟨by kernel_rfl⟩
instance tw41 : TyC Tryz.prog 26 false 1 := ⟨by kernel_rfl⟩
instance tw42 : TyC Tryz.prog 78 true 3 := ⟨by kernel_rfl⟩
instance tw43 : ZerC Tryz.prog 78 (.agg #[.int .i64 (0), .int .i64 (0), .int .i64 (0)]) := ⟨by kernel_rfl⟩
theorem tw44 : elB Tryz.prog 78 3 24 = true := by kernel_rfl
set_option maxHeartbeats 4000000 in
theorem rfirst_ok (β : Base) (w : World) (hw : St β [] w) (id : Int) (va : Option Addr) (vc : Nat) (cm : List KComp) (hs : Sl CompR β.heap (sB va cm vc) cm) (kd : UInt8) : Ret Tryz.prog 72 #[.agg #[Ix id, sB va cm vc], Bx kd] β w (Ix (idxI (fun c : KComp => decide (c.kind = kd)) cm)) := by
 obtain ⟨-,vl,vm,ve⟩ := Sl.parts hs
 refine enter (n := 22) Tryz.func72 rfl Tryz.ntmps72 rfl ?_ hw
 refine csr (bxa fun b1 => ?_)
 refine lE oai (lnf (cs2 (c_region (lE oai (lnf (c_block ?_))))))
 refine c_loop (fun (k : Nat) f L => (f 1 = Bx (kd) ∧ f 2 = pp b1 0 ∧ f 5 = Nx (k)) ∧ L = [pt b1 (.cells #[Ix (id),sB va cm (vc)] 59)] ∧ (k ≤ cm.length ∧ ∀ z ∈ cm.take k,decide (z.kind = kd) = false)) (fun k => cm.length - k) 0 ?_ ?_
 ·exact ⟨⟨rfl,rfl,rfl⟩,rfl,⟨by omega,by simp⟩⟩
 rintro k f0 L0 ⟨⟨hs1,hs2,hs5⟩,hL,⟨hk,hno⟩⟩
 subst L0
 refine rbs 1 hs1 (rbs 2 hs2 (rbs 5 hs5 (cs2 (c_region (lE omi (lE ofp (lE (ols 0) (lE oln (lE olt (lnf (c_if _ rfl (fun hc2 => ?_) (fun hc2 => ?_))))))))))))
 ·refine csk (c_seq (c_block (csr (lE ofp (lE (ols 0) (lE omi ?_))))))
  obtain ⟨x3,hx4⟩ := getx cm k (by omega)
  obtain ⟨ha5,cs6,hc7,rfl⟩ := ve _ _ hx4
  refine lE (oia tw3 ha5) (lE ofa ?_)
  refine lv (v := Bx (x3.kind)) (e_load1 tw5.ok rfl (Knows.imp (kB hc7) (fun _ h => Cs.sub (vs := [Bx (x3.kind)]) 0 h rfl))) (lE omi (lE oeq_ (lnf ?_)))
  refine c_if _ rfl (fun hc9 => ?_) (fun hc9 => ?_)
  ·refine csr (lE omi (lE oai (lnf (c_ret (f_block_ret (f_then_ret (f_then_ret (f_block_ret (f_then_ret (ret1 Tryz.results72 rfl ?_))))))))))
   intro w hw
   exact ⟨congrArg (fun z : Int => Ending.returned (Ix z)) (idx_found hx4 (decide_eq_true (UInt8.toNat_inj.1 (by omega))) hno).symm,st_mask [false] rfl hw⟩
  refine c_skip (f_block (f_then (c_region (lE omi (lv (v := Nx (k + 1)) (e_add rfl rfl (i64n (by omega) (by omega))) (lE oai (l_nil ?_)))))))
  exact f_cut ⟨k + 1,⟨⟨rfl,rfl,rfl⟩,rfl,⟨by omega,first_no hx4 hno (fun q => hc9 (by rw [q]))⟩⟩,(show cm.length - (k + 1) < cm.length - k from by omega)⟩
 refine c_exit (f_then_exit (f_then_exit (f_exit (ftc (lE oai (lnf (c_ret (ret1 Tryz.results72 rfl ?_))))))))
 intro w hw
 exact ⟨congrArg (fun z : Int => Ending.returned (Ix z)) (idx_none (k := k) (by omega) hno).symm,st_mask [false] rfl hw⟩
set_option maxHeartbeats 4000000 in
theorem rbody_ok (β : Base) (w : World) (hw : St β [] w) (id : Int) (va : Option Addr) (vc : Nat) (cm : List KComp) (hs : Sl CompR β.heap (sB va cm vc) cm) : Ret Tryz.prog 69 #[.agg #[Ix id, sB va cm vc]] β w (.tuple #[.agg (bC (bodyD id cm)), .bool (bodyOf id cm).isSome]) := by
 obtain ⟨-,vl,vm,ve⟩ := Sl.parts hs
 refine enter (n := 77) Tryz.func69 rfl Tryz.ntmps69 rfl ?_ hw
 refine csr (bxa fun b1 => ?_)
 refine alE fun b2 => lE oab (lnf (c_seq (c_quiet (by kernel_rfl) (by kernel_rfl) (qE (olg 1) ?_))))
 refine q_call (v := Ix ((idxI (fun c : KComp => decide (c.kind = 1)) cm))) rfl rfl rfl (cl0 (vs := [.agg #[Ix (id),sB va cm (vc)],.int .u8 (1)]) tw8.ok rfl rfl) (fun w hw => ?_) ?_
 ·obtain ⟨β1,sb,kn,hw1,back⟩ := St.frame_all hw
  exact (rfirst_ok β1 w hw1 (id) va vc cm (Sl.mono _ _ _ _ _ sb hs) 1).mono (fun e w' ⟨he,hw'⟩ => ⟨he,st_mask [true,true] rfl (back _ _ hw')⟩)
 refine qE (olg 1) ?_
 refine q_call (v := Ix ((idxI (fun c : KComp => decide (c.kind = 3)) cm))) rfl rfl rfl (cl0 (vs := [.agg #[Ix (id),sB va cm (vc)],.int .u8 (3)]) tw8.ok rfl rfl) (fun w hw => ?_) ?_
 ·obtain ⟨β1,sb,kn,hw1,back⟩ := St.frame_all hw
  exact (rfirst_ok β1 w hw1 (id) va vc cm (Sl.mono _ _ _ _ _ sb hs) 3).mono (fun e w' ⟨he,hw'⟩ => ⟨he,st_mask [true,true] rfl (back _ _ hw')⟩)
 refine qE (olg 1) ?_
 refine q_call (v := Ix ((idxI (fun c : KComp => decide (c.kind = 2)) cm))) rfl rfl rfl (cl0 (vs := [.agg #[Ix (id),sB va cm (vc)],.int .u8 (2)]) tw8.ok rfl rfl) (fun w hw => ?_) ?_
 ·obtain ⟨β1,sb,kn,hw1,back⟩ := St.frame_all hw
  exact (rfirst_ok β1 w hw1 (id) va vc cm (Sl.mono _ _ _ _ _ sb hs) 2).mono (fun e w' ⟨he,hw'⟩ => ⟨he,st_mask [true,true] rfl (back _ _ hw')⟩)
 refine qE oai (qE oai (qE oai (q_nil (fts (c_seq ?_)))))
 rcases idxK_cases cm 1 with ⟨hn1,hf1⟩ | ⟨i1,c1,hi1,hx1,hf1,hl1⟩
 ·refine c_region (lE omi (lE olt (lE omb (l_split (s := 18) rfl (fun h => ?_) (fun h => ?_)))))
  rotate_left; exact absurd hn1 h
  refine skE (skE (lE oktb (lnf (c_yes rfl (csr ?_)))))
  refine lv (v := .agg #[.int .i64 (0),.int .i64 (0),.int .i64 (0),.int .i64 (0),.int .i64 (0),.int .i64 (0),.int .i64 (0),.bool false,.bool false]) (e_build tw6.ok tw9 (vs := []) (cells := #[.int .i64 (0),.int .i64 (0),.int .i64 (0),.int .i64 (0),.int .i64 (0),.int .i64 (0),.int .i64 (0),.bool false,.bool false]) rfl (by kernel_rfl)) ?_
  refine lu (mS 0 (#[.int .i64 (0),.int .i64 (0),.int .i64 (0),.int .i64 (0),.int .i64 (0),.int .i64 (0),.int .i64 (0),.bool false,.bool false])) ?_
  refine lE oab (lnf (c_ret (f_then_ret ?_)))
  refine retG (m := [.agg #[.int .i64 (0),.int .i64 (0),.int .i64 (0),.int .i64 (0),.int .i64 (0),.int .i64 (0),.int .i64 (0),.bool false,.bool false],.bool false]) Tryz.results69 ⟨rd_cell tw10.ok rfl (k_pt 0 rfl rfl) rfl,rd_tmp (v := .bool false) rfl,trivial⟩ rfl ?_
  intro w hw
  exact ⟨body_ret_none (body_no1 hf1),st_mask [false,false] rfl hw⟩
 rw [hi1]
 obtain ⟨ha1,cs1,hc1,rfl⟩ := ve _ _ hx1
 rcases idxK_cases cm 3 with ⟨hn3,hf3⟩ | ⟨i3,c3,hi3,hx3,hf3,hl3⟩
 ·refine c_region (lE omi (lE olt (lE omb (l_split (s := 18) rfl (fun h => ?_) (fun h => ?_)))))
  exact absurd h (by omega)
  refine gE omi (gE olt (lE okfb (lnf (c_if _ rfl (fun hc3 => ?_) (fun hc3 => ?_)))))
  ·refine csr ?_
   refine lv (v := .agg #[.int .i64 (0),.int .i64 (0),.int .i64 (0),.int .i64 (0),.int .i64 (0),.int .i64 (0),.int .i64 (0),.bool false,.bool false]) (e_build tw6.ok tw9 (vs := []) (cells := #[.int .i64 (0),.int .i64 (0),.int .i64 (0),.int .i64 (0),.int .i64 (0),.int .i64 (0),.int .i64 (0),.bool false,.bool false]) rfl (by kernel_rfl)) ?_
   refine lu (mS 0 (#[.int .i64 (0),.int .i64 (0),.int .i64 (0),.int .i64 (0),.int .i64 (0),.int .i64 (0),.int .i64 (0),.bool false,.bool false])) ?_
   refine lE oab (lnf (c_ret (f_then_ret ?_)))
   refine retG (m := [.agg #[.int .i64 (0),.int .i64 (0),.int .i64 (0),.int .i64 (0),.int .i64 (0),.int .i64 (0),.int .i64 (0),.bool false,.bool false],.bool false]) Tryz.results69 ⟨rd_cell tw10.ok rfl (k_pt 0 rfl rfl) rfl,rd_tmp (v := .bool false) rfl,trivial⟩ rfl ?_
   intro w hw
   exact ⟨body_ret_none (body_no3 hf3),st_mask [false,false] rfl hw⟩
  exact absurd hn3 hc3
 rw [hi3]
 obtain ⟨ha3,cs3,hc3,rfl⟩ := ve _ _ hx3
 rcases idxK_cases cm 2 with ⟨hn2,hf2⟩ | ⟨i2,c2,hi2,hx2,hf2,hl2⟩
 ·refine c_region (lE omi (lE olt (lE omb (l_split (s := 18) rfl (fun h => ?_) (fun h => ?_)))))
  exact absurd h (by omega)
  refine gE omi (gE olt (lE okfb (lnf (c_if _ rfl (fun hc4 => ?_) (fun hc4 => ?_)))))
  ·exact absurd hc4 (by omega)
  refine csk (c_seq ?_)
  rcases Decidable.em (c3.v3 = 1) with hfx | hfx
  ·refine cny [sv 23 (pp b1 1) [] [] [0],sv 24 (sB va cm (vc)) [0] [0] [],sv 25 (Nx (i1)) [] [] [1],sv 26 (.pointer (some ((ba va).add (i1 * 5)))) [0,1,2] [1,2] [],sv 27 (.pointer (some (((ba va).add (i1 * 5) : Addr).add 1))) [0,1,2,3] [3] [],sv 28 (.agg #[Ix (c1.v0),Ix (c1.v1),Ix (c1.v2),Ix (c1.v3)]) [0,1,2,3,4] [4] [],sv 29 (pp b1 1) [] [] [0],sv 30 (sB va cm (vc)) [6] [6] [],sv 31 (Nx (i3)) [] [] [2],sv 32 (.pointer (some ((ba va).add (i3 * 5)))) [6,7,8] [7,8] [],sv 33 (.pointer (some (((ba va).add (i3 * 5) : Addr).add 1))) [6,7,8,9] [9] [],sv 34 (.agg #[Ix (c3.v0),Ix (c3.v1),Ix (c3.v2),Ix (c3.v3)]) [6,7,8,9,10] [10] [],⟨[],[],[],[7],fun f => f 7 = .pointer (some ⟨(blk (f 7)),0,none⟩)⟩,⟨[],[],[],[8],fun f => f 8 = .pointer (some ⟨(blk (f 8)),0,none⟩)⟩,⟨[0,1,2,3,4,5,12,13],[12,5],[],[],fun _ => True⟩,⟨(List.range 15),[13,11],[],[],fun _ => True⟩] [tk (pt b2 (.cells #[.int .i64 (0),.int .i64 (0),.int .i64 (0),.int .i64 (0),.int .i64 (0),.int .i64 (0),.int .i64 (0),.bool false,.bool false] 52)) [],tk (pt b1 (.cells #[Ix (id),sB va cm (vc)] 59)) [1,7],⟨(some 12),(some 14),[14],[7],fun f => pt (blk (f 7)) (.cells #[.int .i64 (0),.int .i64 (0),.int .i64 (0),.int .i64 (0)] 118)⟩,⟨(some 13),(some 15),[15],[8],fun f => pt (blk (f 8)) (.cells #[.int .i64 (0),.int .i64 (0),.int .i64 (0),.int .i64 (0)] 118)⟩,⟨(some 14),none,[],[7],fun f => pt (blk (f 7)) (.cells #[Ix (c1.v0),Ix (c1.v1),Ix (c1.v2),Ix (c1.v3)] 118)⟩,⟨(some 15),none,[],[8],fun f => pt (blk (f 8)) (.cells #[Ix (c3.v0),Ix (c3.v1),Ix (c3.v2),Ix (c3.v3)] 118)⟩] [(1,pp b1 0),(4,Nx (i1)),(5,Nx (i3)),(2,pp b2 0),(6,Ix ((idxI (fun c : KComp => decide (c.kind = 2)) cm)))] [0,3,4] [] ⟨rfl,rfl,rfl,rfl,rfl,trivial⟩ ⟨?_,?_,?_,?_,?_,?_,?_,?_,?_,?_,?_,?_,?_,?_,?_,?_,trivial⟩ ?_
   ·rintro f M - ⟨i0,-⟩
    exact obE ofp
   ·rintro f M ⟨k0,-⟩ -
    exact obE (ols 0)
   ·rintro f M - ⟨i0,-⟩
    exact obE omi
   ·rintro f M ⟨k0,k1,-⟩ -
    exact ob0 (up_cons (d := 25) (up_cons (d := 24) rfl k0) k1) rfl (e_indexAddr rfl rfl tw3 (by omega) ha1) (.refl _)
   ·rintro f M ⟨k0,-⟩ -
    exact obE ofa
   ·rintro f M ⟨k0,-⟩ -
    exact ob0 (up_cons (d := 27) rfl k0) rfl (e_load tw12.ok rfl (Knows.imp (kB hc1) (fun _ h => Cs.sub (vs := [Ix (c1.v0),Ix (c1.v1),Ix (c1.v2),Ix (c1.v3)]) 1 h rfl)) rfl) (.refl _)
   ·rintro f M - ⟨i0,-⟩
    exact obE ofp
   ·rintro f M ⟨k0,-⟩ -
    exact obE (ols 0)
   ·rintro f M - ⟨i0,-⟩
    exact obE omi
   ·rintro f M ⟨k0,k1,-⟩ -
    exact ob0 (up_cons (d := 31) (up_cons (d := 30) rfl k0) k1) rfl (e_indexAddr rfl rfl tw3 (by omega) ha3) (.refl _)
   ·rintro f M ⟨k0,-⟩ -
    exact obE ofa
   ·rintro f M ⟨k0,-⟩ -
    exact ob0 (up_cons (d := 33) rfl k0) rfl (e_load tw12.ok rfl (Knows.imp (kB hc3) (fun _ h => Cs.sub (vs := [Ix (c3.v0),Ix (c3.v1),Ix (c3.v2),Ix (c3.v3)]) 1 h rfl)) rfl) (.refl _)
   ·rintro f M - -
    refine ob_start (L' := M) (by rfl) rfl (alE fun b6 => l_nil ?_)
    exact f_owes_d rfl rfl (perm_front 0 rfl)
   ·rintro f M - -
    refine ob_start (L' := M) (by rfl) rfl (alE fun b8 => l_nil ?_)
    exact f_owes_d rfl rfl (perm_front 0 rfl)
   ·rintro f M ⟨k0,k1,-⟩ -
    have hs7 : f 7 = .pointer (some ⟨(blk (f 7)),0,none⟩) := k0
    refine ob_start (L' := pt (blk (f 7)) (.cells #[.int .i64 (0),.int .i64 (0),.int .i64 (0),.int .i64 (0)] 118) :: M) (by rfl) (up_cons (d := 28) (up_cons rfl hs7) k1) ?_
    refine lu (mS 0 (#[Ix (c1.v0),Ix (c1.v1),Ix (c1.v2),Ix (c1.v3)])) (l_nil ?_)
    exact f_owes_n (up_cons (d := 28) (up_cons rfl hs7) k1) trivial (perm_front 0 rfl)
   ·rintro f M ⟨k0,k1,-⟩ -
    have hs8 : f 8 = .pointer (some ⟨(blk (f 8)),0,none⟩) := k0
    refine ob_start (L' := pt (blk (f 8)) (.cells #[.int .i64 (0),.int .i64 (0),.int .i64 (0),.int .i64 (0)] 118) :: M) (by rfl) (up_cons (d := 34) (up_cons rfl hs8) k1) ?_
    refine lu (mS 0 (#[Ix (c3.v0),Ix (c3.v1),Ix (c3.v2),Ix (c3.v3)])) (l_nil ?_)
    exact f_owes_n (up_cons (d := 34) (up_cons rfl hs8) k1) trivial (perm_front 0 rfl)
   rintro fa9 ⟨-,-,-,-,-,-,-,-,-,-,-,-,k12,k13,-,-,-⟩ ⟨j0,j1,j2,-⟩
   refine f_re (L' := [pt b2 (.cells #[.int .i64 (0),.int .i64 (0),.int .i64 (0),.int .i64 (0),.int .i64 (0),.int .i64 (0),.int .i64 (0),.bool false,.bool false] 52),pt b1 (.cells #[Ix (id),sB va cm (vc)] 59),pt (blk (fa9 7)) (.cells #[Ix (c1.v0),Ix (c1.v1),Ix (c1.v2),Ix (c1.v3)] 118),pt (blk (fa9 8)) (.cells #[Ix (c3.v0),Ix (c3.v1),Ix (c3.v2),Ix (c3.v3)] 118)]) (by rfl) ?_
   refine f_rebase (d := 1) j0 (f_rebase (d := 2) j1 (f_rebase (d := 6) j2 (f_rebase (d := 7) k12 (f_rebase (d := 8) k13 (ftc (lE ofp (lE (oli 1) ?_)))))))
   refine lv (v := .pointer (some ⟨(blk (fa9 7)),0,none⟩)) (e_indexArrK (b := (blk (fa9 7))) (o := 0) (k := 0) rfl rfl tw16.ok (by decide)) ?_
   refine lE (oli 2) ?_
   refine lv (v := .pointer (some ⟨(blk (fa9 7)),1,none⟩)) (e_indexArrK (b := (blk (fa9 7))) (o := 0) (k := 1) rfl rfl tw16.ok (by decide)) ?_
   refine lE (oli 2) ?_
   refine lv (v := .agg #[Ix (c1.v0),Ix (c1.v1)]) (e_build tw18.ok tw17 (vs := [(0,Ix (c1.v0)),(1,Ix (c1.v1))]) (cells := #[Ix (c1.v0),Ix (c1.v1)]) rfl rfl) ?_
   refine lv (v := .pointer (some ⟨(blk (fa9 8)),0,none⟩)) (e_indexArrK (b := (blk (fa9 8))) (o := 0) (k := 0) rfl rfl tw16.ok (by decide)) ?_
   refine lE (oli 3) ?_
   refine lv (v := .pointer (some ⟨(blk (fa9 8)),1,none⟩)) (e_indexArrK (b := (blk (fa9 8))) (o := 0) (k := 1) rfl rfl tw16.ok (by decide)) ?_
   refine lE (oli 3) ?_
   refine lv (v := .pointer (some ⟨(blk (fa9 8)),2,none⟩)) (e_indexArrK (b := (blk (fa9 8))) (o := 0) (k := 2) rfl rfl tw16.ok (by decide)) ?_
   refine lE (oli 3) (lE oeq_ ?_)
   refine lv (v := .pointer (some ⟨(blk (fa9 8)),3,none⟩)) (e_indexArrK (b := (blk (fa9 8))) (o := 0) (k := 3) rfl rfl tw16.ok (by decide)) ?_
   refine lE (oli 3) (lE oeq_ (lE omb (l_split (s := 52) rfl (fun h => ?_) (fun h => ?_))))
   rotate_left; exact absurd hfx h
   refine skE (skE (lE oktb ?_))
   refine lv (v := .agg #[Ix (id),Ix (c1.v0),Ix (c1.v1),.int .i64 (0),.int .i64 (0),Ix (c3.v0),Ix (c3.v1),.bool (decide ((c3.v2) = (1 : Int))),.bool true]) (e_build tw6.ok tw9 (vs := [(0,Ix (id)),(1,.agg #[Ix (c1.v0),Ix (c1.v1)]),(3,Ix (c3.v0)),(4,Ix (c3.v1)),(5,.bool (decide ((c3.v2) = (1 : Int)))),(6,.bool true)]) (cells := #[Ix (id),Ix (c1.v0),Ix (c1.v1),.int .i64 (0),.int .i64 (0),Ix (c3.v0),Ix (c3.v1),.bool (decide ((c3.v2) = (1 : Int))),.bool true]) rfl (by kernel_rfl)) ?_
   refine alE fun b10 => ?_
   refine lu (mS 0 (#[Ix (id),Ix (c1.v0),Ix (c1.v1),.int .i64 (0),.int .i64 (0),Ix (c3.v0),Ix (c3.v1),.bool (decide ((c3.v2) = (1 : Int))),.bool true])) ?_
   refine lnf (cs2 (c_region (lE ofp (lE (olb 0) (lE ont (lnf (c_no rfl (csk (csr (lE (olg 0) ?_))))))))))
   refine lu (mS 1 (#[Ix (id),Ix (c1.v0),Ix (c1.v1),.int .i64 (0),.int .i64 (0),Ix (c3.v0),Ix (c3.v1),.bool (decide ((c3.v2) = (1 : Int))),.bool true])) ?_
   refine lE oab (lnf (c_ret ?_))
   refine retG (m := [.agg #[Ix (id),Ix (c1.v0),Ix (c1.v1),.int .i64 (0),.int .i64 (0),Ix (c3.v0),Ix (c3.v1),.bool (decide ((c3.v2) = (1 : Int))),.bool true],.bool true]) Tryz.results69 ⟨rd_cell tw10.ok rfl (k_pt 1 rfl rfl) rfl,rd_tmp (v := .bool true) rfl,trivial⟩ rfl ?_
   intro w hw
   exact ⟨body_ret_some (body_fix hf1 hf3 (.inl hfx)),st_mask [false,false,false,false,false] rfl hw⟩
  refine cny [sv 23 (pp b1 1) [] [] [0],sv 24 (sB va cm (vc)) [0] [0] [],sv 25 (Nx (i1)) [] [] [1],sv 26 (.pointer (some ((ba va).add (i1 * 5)))) [0,1,2] [1,2] [],sv 27 (.pointer (some (((ba va).add (i1 * 5) : Addr).add 1))) [0,1,2,3] [3] [],sv 28 (.agg #[Ix (c1.v0),Ix (c1.v1),Ix (c1.v2),Ix (c1.v3)]) [0,1,2,3,4] [4] [],sv 29 (pp b1 1) [] [] [0],sv 30 (sB va cm (vc)) [6] [6] [],sv 31 (Nx (i3)) [] [] [2],sv 32 (.pointer (some ((ba va).add (i3 * 5)))) [6,7,8] [7,8] [],sv 33 (.pointer (some (((ba va).add (i3 * 5) : Addr).add 1))) [6,7,8,9] [9] [],sv 34 (.agg #[Ix (c3.v0),Ix (c3.v1),Ix (c3.v2),Ix (c3.v3)]) [6,7,8,9,10] [10] [],⟨[],[],[],[7],fun f => f 7 = .pointer (some ⟨(blk (f 7)),0,none⟩)⟩,⟨[],[],[],[8],fun f => f 8 = .pointer (some ⟨(blk (f 8)),0,none⟩)⟩,⟨[0,1,2,3,4,5,12,13],[12,5],[],[],fun _ => True⟩,⟨(List.range 15),[13,11],[],[],fun _ => True⟩] [tk (pt b2 (.cells #[.int .i64 (0),.int .i64 (0),.int .i64 (0),.int .i64 (0),.int .i64 (0),.int .i64 (0),.int .i64 (0),.bool false,.bool false] 52)) [],tk (pt b1 (.cells #[Ix (id),sB va cm (vc)] 59)) [1,7],⟨(some 12),(some 14),[14],[7],fun f => pt (blk (f 7)) (.cells #[.int .i64 (0),.int .i64 (0),.int .i64 (0),.int .i64 (0)] 118)⟩,⟨(some 13),(some 15),[15],[8],fun f => pt (blk (f 8)) (.cells #[.int .i64 (0),.int .i64 (0),.int .i64 (0),.int .i64 (0)] 118)⟩,⟨(some 14),none,[],[7],fun f => pt (blk (f 7)) (.cells #[Ix (c1.v0),Ix (c1.v1),Ix (c1.v2),Ix (c1.v3)] 118)⟩,⟨(some 15),none,[],[8],fun f => pt (blk (f 8)) (.cells #[Ix (c3.v0),Ix (c3.v1),Ix (c3.v2),Ix (c3.v3)] 118)⟩] [(1,pp b1 0),(4,Nx (i1)),(5,Nx (i3)),(2,pp b2 0),(6,Ix ((idxI (fun c : KComp => decide (c.kind = 2)) cm)))] [0,3,4] [] ⟨rfl,rfl,rfl,rfl,rfl,trivial⟩ ⟨?_,?_,?_,?_,?_,?_,?_,?_,?_,?_,?_,?_,?_,?_,?_,?_,trivial⟩ ?_
  ·rintro f M - ⟨i0,-⟩
   exact obE ofp
  ·rintro f M ⟨k0,-⟩ -
   exact obE (ols 0)
  ·rintro f M - ⟨i0,-⟩
   exact obE omi
  ·rintro f M ⟨k0,k1,-⟩ -
   exact ob0 (up_cons (d := 25) (up_cons (d := 24) rfl k0) k1) rfl (e_indexAddr rfl rfl tw3 (by omega) ha1) (.refl _)
  ·rintro f M ⟨k0,-⟩ -
   exact obE ofa
  ·rintro f M ⟨k0,-⟩ -
   exact ob0 (up_cons (d := 27) rfl k0) rfl (e_load tw12.ok rfl (Knows.imp (kB hc1) (fun _ h => Cs.sub (vs := [Ix (c1.v0),Ix (c1.v1),Ix (c1.v2),Ix (c1.v3)]) 1 h rfl)) rfl) (.refl _)
  ·rintro f M - ⟨i0,-⟩
   exact obE ofp
  ·rintro f M ⟨k0,-⟩ -
   exact obE (ols 0)
  ·rintro f M - ⟨i0,-⟩
   exact obE omi
  ·rintro f M ⟨k0,k1,-⟩ -
   exact ob0 (up_cons (d := 31) (up_cons (d := 30) rfl k0) k1) rfl (e_indexAddr rfl rfl tw3 (by omega) ha3) (.refl _)
  ·rintro f M ⟨k0,-⟩ -
   exact obE ofa
  ·rintro f M ⟨k0,-⟩ -
   exact ob0 (up_cons (d := 33) rfl k0) rfl (e_load tw12.ok rfl (Knows.imp (kB hc3) (fun _ h => Cs.sub (vs := [Ix (c3.v0),Ix (c3.v1),Ix (c3.v2),Ix (c3.v3)]) 1 h rfl)) rfl) (.refl _)
  ·rintro f M - -
   refine ob_start (L' := M) (by rfl) rfl (alE fun b12 => l_nil ?_)
   exact f_owes_d rfl rfl (perm_front 0 rfl)
  ·rintro f M - -
   refine ob_start (L' := M) (by rfl) rfl (alE fun b14 => l_nil ?_)
   exact f_owes_d rfl rfl (perm_front 0 rfl)
  ·rintro f M ⟨k0,k1,-⟩ -
   have hs7 : f 7 = .pointer (some ⟨(blk (f 7)),0,none⟩) := k0
   refine ob_start (L' := pt (blk (f 7)) (.cells #[.int .i64 (0),.int .i64 (0),.int .i64 (0),.int .i64 (0)] 118) :: M) (by rfl) (up_cons (d := 28) (up_cons rfl hs7) k1) ?_
   refine lu (mS 0 (#[Ix (c1.v0),Ix (c1.v1),Ix (c1.v2),Ix (c1.v3)])) (l_nil ?_)
   exact f_owes_n (up_cons (d := 28) (up_cons rfl hs7) k1) trivial (perm_front 0 rfl)
  ·rintro f M ⟨k0,k1,-⟩ -
   have hs8 : f 8 = .pointer (some ⟨(blk (f 8)),0,none⟩) := k0
   refine ob_start (L' := pt (blk (f 8)) (.cells #[.int .i64 (0),.int .i64 (0),.int .i64 (0),.int .i64 (0)] 118) :: M) (by rfl) (up_cons (d := 34) (up_cons rfl hs8) k1) ?_
   refine lu (mS 0 (#[Ix (c3.v0),Ix (c3.v1),Ix (c3.v2),Ix (c3.v3)])) (l_nil ?_)
   exact f_owes_n (up_cons (d := 34) (up_cons rfl hs8) k1) trivial (perm_front 0 rfl)
  rintro fa15 ⟨-,-,-,-,-,-,-,-,-,-,-,-,k12,k13,-,-,-⟩ ⟨j0,j1,j2,-⟩
  refine f_re (L' := [pt b2 (.cells #[.int .i64 (0),.int .i64 (0),.int .i64 (0),.int .i64 (0),.int .i64 (0),.int .i64 (0),.int .i64 (0),.bool false,.bool false] 52),pt b1 (.cells #[Ix (id),sB va cm (vc)] 59),pt (blk (fa15 7)) (.cells #[Ix (c1.v0),Ix (c1.v1),Ix (c1.v2),Ix (c1.v3)] 118),pt (blk (fa15 8)) (.cells #[Ix (c3.v0),Ix (c3.v1),Ix (c3.v2),Ix (c3.v3)] 118)]) (by rfl) ?_
  refine f_rebase (d := 1) j0 (f_rebase (d := 2) j1 (f_rebase (d := 6) j2 (f_rebase (d := 7) k12 (f_rebase (d := 8) k13 (ftc (lE ofp (lE (oli 1) ?_)))))))
  refine lv (v := .pointer (some ⟨(blk (fa15 7)),0,none⟩)) (e_indexArrK (b := (blk (fa15 7))) (o := 0) (k := 0) rfl rfl tw16.ok (by decide)) ?_
  refine lE (oli 2) ?_
  refine lv (v := .pointer (some ⟨(blk (fa15 7)),1,none⟩)) (e_indexArrK (b := (blk (fa15 7))) (o := 0) (k := 1) rfl rfl tw16.ok (by decide)) ?_
  refine lE (oli 2) ?_
  refine lv (v := .agg #[Ix (c1.v0),Ix (c1.v1)]) (e_build tw18.ok tw17 (vs := [(0,Ix (c1.v0)),(1,Ix (c1.v1))]) (cells := #[Ix (c1.v0),Ix (c1.v1)]) rfl rfl) ?_
  refine lv (v := .pointer (some ⟨(blk (fa15 8)),0,none⟩)) (e_indexArrK (b := (blk (fa15 8))) (o := 0) (k := 0) rfl rfl tw16.ok (by decide)) ?_
  refine lE (oli 3) ?_
  refine lv (v := .pointer (some ⟨(blk (fa15 8)),1,none⟩)) (e_indexArrK (b := (blk (fa15 8))) (o := 0) (k := 1) rfl rfl tw16.ok (by decide)) ?_
  refine lE (oli 3) ?_
  refine lv (v := .pointer (some ⟨(blk (fa15 8)),2,none⟩)) (e_indexArrK (b := (blk (fa15 8))) (o := 0) (k := 2) rfl rfl tw16.ok (by decide)) ?_
  refine lE (oli 3) (lE oeq_ ?_)
  refine lv (v := .pointer (some ⟨(blk (fa15 8)),3,none⟩)) (e_indexArrK (b := (blk (fa15 8))) (o := 0) (k := 3) rfl rfl tw16.ok (by decide)) ?_
  refine lE (oli 3) (lE oeq_ (lE omb (l_split (s := 52) rfl (fun h => ?_) (fun h => ?_))))
  exact absurd h hfx
  refine gE omi (gE olt (lE okfb ?_))
  refine lv (v := .agg #[Ix (id),Ix (c1.v0),Ix (c1.v1),.int .i64 (0),.int .i64 (0),Ix (c3.v0),Ix (c3.v1),.bool (decide ((c3.v2) = (1 : Int))),.bool (decide (((idxI (fun c : KComp => decide (c.kind = 2)) cm)) < (0 : Int)))]) (e_build tw6.ok tw9 (vs := [(0,Ix (id)),(1,.agg #[Ix (c1.v0),Ix (c1.v1)]),(3,Ix (c3.v0)),(4,Ix (c3.v1)),(5,.bool (decide ((c3.v2) = (1 : Int)))),(6,.bool (decide (((idxI (fun c : KComp => decide (c.kind = 2)) cm)) < (0 : Int))))]) (cells := #[Ix (id),Ix (c1.v0),Ix (c1.v1),.int .i64 (0),.int .i64 (0),Ix (c3.v0),Ix (c3.v1),.bool (decide ((c3.v2) = (1 : Int))),.bool (decide (((idxI (fun c : KComp => decide (c.kind = 2)) cm)) < (0 : Int)))]) rfl (by kernel_rfl)) ?_
  refine alE fun b16 => ?_
  refine lu (mS 0 (#[Ix (id),Ix (c1.v0),Ix (c1.v1),.int .i64 (0),.int .i64 (0),Ix (c3.v0),Ix (c3.v1),.bool (decide ((c3.v2) = (1 : Int))),.bool (decide (((idxI (fun c : KComp => decide (c.kind = 2)) cm)) < (0 : Int)))])) ?_
  refine lnf (cs2 (c_region (lE ofp (lE (olb 0) (lE ond (lnf (c_if _ rfl (fun hc17 => ?_) (fun hc17 => ?_))))))))
  ·exact absurd hc17 (fun q => q hn2)
  refine csk (csr (lE (olg 0) ?_))
  refine lu (mS 1 (#[Ix (id),Ix (c1.v0),Ix (c1.v1),.int .i64 (0),.int .i64 (0),Ix (c3.v0),Ix (c3.v1),.bool (decide ((c3.v2) = (1 : Int))),.bool (decide (((idxI (fun c : KComp => decide (c.kind = 2)) cm)) < (0 : Int)))])) ?_
  refine lE oab (lnf (c_ret ?_))
  refine retG (m := [.agg #[Ix (id),Ix (c1.v0),Ix (c1.v1),.int .i64 (0),.int .i64 (0),Ix (c3.v0),Ix (c3.v1),.bool (decide ((c3.v2) = (1 : Int))),.bool (decide (((idxI (fun c : KComp => decide (c.kind = 2)) cm)) < (0 : Int)))],.bool true]) Tryz.results69 ⟨rd_cell tw10.ok rfl (k_pt 1 rfl rfl) rfl,rd_tmp (v := .bool true) rfl,trivial⟩ rfl ?_
  intro w hw
  exact ⟨by rw [decide_eq_true hn2]; exact body_ret_some (body_fix hf1 hf3 (.inr hf2)),st_mask [false,false,false,false,false] rfl hw⟩
 rw [hi2]
 obtain ⟨ha2,cs2,hc2,rfl⟩ := ve _ _ hx2
 refine c_region (lE omi (lE olt (lE omb (l_split (s := 18) rfl (fun h => ?_) (fun h => ?_)))))
 exact absurd h (by omega)
 refine gE omi (gE olt (lE okfb (lnf (c_if _ rfl (fun hc18 => ?_) (fun hc18 => ?_)))))
 ·exact absurd hc18 (by omega)
 refine csk (c_seq ?_)
 rcases Decidable.em (c3.v3 = 1) with hfx | hfx
 ·refine cny [sv 23 (pp b1 1) [] [] [0],sv 24 (sB va cm (vc)) [0] [0] [],sv 25 (Nx (i1)) [] [] [1],sv 26 (.pointer (some ((ba va).add (i1 * 5)))) [0,1,2] [1,2] [],sv 27 (.pointer (some (((ba va).add (i1 * 5) : Addr).add 1))) [0,1,2,3] [3] [],sv 28 (.agg #[Ix (c1.v0),Ix (c1.v1),Ix (c1.v2),Ix (c1.v3)]) [0,1,2,3,4] [4] [],sv 29 (pp b1 1) [] [] [0],sv 30 (sB va cm (vc)) [6] [6] [],sv 31 (Nx (i3)) [] [] [2],sv 32 (.pointer (some ((ba va).add (i3 * 5)))) [6,7,8] [7,8] [],sv 33 (.pointer (some (((ba va).add (i3 * 5) : Addr).add 1))) [6,7,8,9] [9] [],sv 34 (.agg #[Ix (c3.v0),Ix (c3.v1),Ix (c3.v2),Ix (c3.v3)]) [6,7,8,9,10] [10] [],⟨[],[],[],[7],fun f => f 7 = .pointer (some ⟨(blk (f 7)),0,none⟩)⟩,⟨[],[],[],[8],fun f => f 8 = .pointer (some ⟨(blk (f 8)),0,none⟩)⟩,⟨[0,1,2,3,4,5,12,13],[12,5],[],[],fun _ => True⟩,⟨(List.range 15),[13,11],[],[],fun _ => True⟩] [tk (pt b2 (.cells #[.int .i64 (0),.int .i64 (0),.int .i64 (0),.int .i64 (0),.int .i64 (0),.int .i64 (0),.int .i64 (0),.bool false,.bool false] 52)) [],tk (pt b1 (.cells #[Ix (id),sB va cm (vc)] 59)) [1,7],⟨(some 12),(some 14),[14],[7],fun f => pt (blk (f 7)) (.cells #[.int .i64 (0),.int .i64 (0),.int .i64 (0),.int .i64 (0)] 118)⟩,⟨(some 13),(some 15),[15],[8],fun f => pt (blk (f 8)) (.cells #[.int .i64 (0),.int .i64 (0),.int .i64 (0),.int .i64 (0)] 118)⟩,⟨(some 14),none,[],[7],fun f => pt (blk (f 7)) (.cells #[Ix (c1.v0),Ix (c1.v1),Ix (c1.v2),Ix (c1.v3)] 118)⟩,⟨(some 15),none,[],[8],fun f => pt (blk (f 8)) (.cells #[Ix (c3.v0),Ix (c3.v1),Ix (c3.v2),Ix (c3.v3)] 118)⟩] [(1,pp b1 0),(4,Nx (i1)),(5,Nx (i3)),(2,pp b2 0),(6,Nx (i2))] [0,3,4] [] ⟨rfl,rfl,rfl,rfl,rfl,trivial⟩ ⟨?_,?_,?_,?_,?_,?_,?_,?_,?_,?_,?_,?_,?_,?_,?_,?_,trivial⟩ ?_
  ·rintro f M - ⟨i0,-⟩
   exact obE ofp
  ·rintro f M ⟨k0,-⟩ -
   exact obE (ols 0)
  ·rintro f M - ⟨i0,-⟩
   exact obE omi
  ·rintro f M ⟨k0,k1,-⟩ -
   exact ob0 (up_cons (d := 25) (up_cons (d := 24) rfl k0) k1) rfl (e_indexAddr rfl rfl tw3 (by omega) ha1) (.refl _)
  ·rintro f M ⟨k0,-⟩ -
   exact obE ofa
  ·rintro f M ⟨k0,-⟩ -
   exact ob0 (up_cons (d := 27) rfl k0) rfl (e_load tw12.ok rfl (Knows.imp (kB hc1) (fun _ h => Cs.sub (vs := [Ix (c1.v0),Ix (c1.v1),Ix (c1.v2),Ix (c1.v3)]) 1 h rfl)) rfl) (.refl _)
  ·rintro f M - ⟨i0,-⟩
   exact obE ofp
  ·rintro f M ⟨k0,-⟩ -
   exact obE (ols 0)
  ·rintro f M - ⟨i0,-⟩
   exact obE omi
  ·rintro f M ⟨k0,k1,-⟩ -
   exact ob0 (up_cons (d := 31) (up_cons (d := 30) rfl k0) k1) rfl (e_indexAddr rfl rfl tw3 (by omega) ha3) (.refl _)
  ·rintro f M ⟨k0,-⟩ -
   exact obE ofa
  ·rintro f M ⟨k0,-⟩ -
   exact ob0 (up_cons (d := 33) rfl k0) rfl (e_load tw12.ok rfl (Knows.imp (kB hc3) (fun _ h => Cs.sub (vs := [Ix (c3.v0),Ix (c3.v1),Ix (c3.v2),Ix (c3.v3)]) 1 h rfl)) rfl) (.refl _)
  ·rintro f M - -
   refine ob_start (L' := M) (by rfl) rfl (alE fun b20 => l_nil ?_)
   exact f_owes_d rfl rfl (perm_front 0 rfl)
  ·rintro f M - -
   refine ob_start (L' := M) (by rfl) rfl (alE fun b22 => l_nil ?_)
   exact f_owes_d rfl rfl (perm_front 0 rfl)
  ·rintro f M ⟨k0,k1,-⟩ -
   have hs7 : f 7 = .pointer (some ⟨(blk (f 7)),0,none⟩) := k0
   refine ob_start (L' := pt (blk (f 7)) (.cells #[.int .i64 (0),.int .i64 (0),.int .i64 (0),.int .i64 (0)] 118) :: M) (by rfl) (up_cons (d := 28) (up_cons rfl hs7) k1) ?_
   refine lu (mS 0 (#[Ix (c1.v0),Ix (c1.v1),Ix (c1.v2),Ix (c1.v3)])) (l_nil ?_)
   exact f_owes_n (up_cons (d := 28) (up_cons rfl hs7) k1) trivial (perm_front 0 rfl)
  ·rintro f M ⟨k0,k1,-⟩ -
   have hs8 : f 8 = .pointer (some ⟨(blk (f 8)),0,none⟩) := k0
   refine ob_start (L' := pt (blk (f 8)) (.cells #[.int .i64 (0),.int .i64 (0),.int .i64 (0),.int .i64 (0)] 118) :: M) (by rfl) (up_cons (d := 34) (up_cons rfl hs8) k1) ?_
   refine lu (mS 0 (#[Ix (c3.v0),Ix (c3.v1),Ix (c3.v2),Ix (c3.v3)])) (l_nil ?_)
   exact f_owes_n (up_cons (d := 34) (up_cons rfl hs8) k1) trivial (perm_front 0 rfl)
  rintro fa23 ⟨-,-,-,-,-,-,-,-,-,-,-,-,k12,k13,-,-,-⟩ ⟨j0,j1,j2,-⟩
  refine f_re (L' := [pt b2 (.cells #[.int .i64 (0),.int .i64 (0),.int .i64 (0),.int .i64 (0),.int .i64 (0),.int .i64 (0),.int .i64 (0),.bool false,.bool false] 52),pt b1 (.cells #[Ix (id),sB va cm (vc)] 59),pt (blk (fa23 7)) (.cells #[Ix (c1.v0),Ix (c1.v1),Ix (c1.v2),Ix (c1.v3)] 118),pt (blk (fa23 8)) (.cells #[Ix (c3.v0),Ix (c3.v1),Ix (c3.v2),Ix (c3.v3)] 118)]) (by rfl) ?_
  refine f_rebase (d := 1) j0 (f_rebase (d := 2) j1 (f_rebase (d := 6) j2 (f_rebase (d := 7) k12 (f_rebase (d := 8) k13 (ftc (lE ofp (lE (oli 1) ?_)))))))
  refine lv (v := .pointer (some ⟨(blk (fa23 7)),0,none⟩)) (e_indexArrK (b := (blk (fa23 7))) (o := 0) (k := 0) rfl rfl tw16.ok (by decide)) ?_
  refine lE (oli 2) ?_
  refine lv (v := .pointer (some ⟨(blk (fa23 7)),1,none⟩)) (e_indexArrK (b := (blk (fa23 7))) (o := 0) (k := 1) rfl rfl tw16.ok (by decide)) ?_
  refine lE (oli 2) ?_
  refine lv (v := .agg #[Ix (c1.v0),Ix (c1.v1)]) (e_build tw18.ok tw17 (vs := [(0,Ix (c1.v0)),(1,Ix (c1.v1))]) (cells := #[Ix (c1.v0),Ix (c1.v1)]) rfl rfl) ?_
  refine lv (v := .pointer (some ⟨(blk (fa23 8)),0,none⟩)) (e_indexArrK (b := (blk (fa23 8))) (o := 0) (k := 0) rfl rfl tw16.ok (by decide)) ?_
  refine lE (oli 3) ?_
  refine lv (v := .pointer (some ⟨(blk (fa23 8)),1,none⟩)) (e_indexArrK (b := (blk (fa23 8))) (o := 0) (k := 1) rfl rfl tw16.ok (by decide)) ?_
  refine lE (oli 3) ?_
  refine lv (v := .pointer (some ⟨(blk (fa23 8)),2,none⟩)) (e_indexArrK (b := (blk (fa23 8))) (o := 0) (k := 2) rfl rfl tw16.ok (by decide)) ?_
  refine lE (oli 3) (lE oeq_ ?_)
  refine lv (v := .pointer (some ⟨(blk (fa23 8)),3,none⟩)) (e_indexArrK (b := (blk (fa23 8))) (o := 0) (k := 3) rfl rfl tw16.ok (by decide)) ?_
  refine lE (oli 3) (lE oeq_ (lE omb (l_split (s := 52) rfl (fun h => ?_) (fun h => ?_))))
  rotate_left; exact absurd hfx h
  refine skE (skE (lE oktb ?_))
  refine lv (v := .agg #[Ix (id),Ix (c1.v0),Ix (c1.v1),.int .i64 (0),.int .i64 (0),Ix (c3.v0),Ix (c3.v1),.bool (decide ((c3.v2) = (1 : Int))),.bool true]) (e_build tw6.ok tw9 (vs := [(0,Ix (id)),(1,.agg #[Ix (c1.v0),Ix (c1.v1)]),(3,Ix (c3.v0)),(4,Ix (c3.v1)),(5,.bool (decide ((c3.v2) = (1 : Int)))),(6,.bool true)]) (cells := #[Ix (id),Ix (c1.v0),Ix (c1.v1),.int .i64 (0),.int .i64 (0),Ix (c3.v0),Ix (c3.v1),.bool (decide ((c3.v2) = (1 : Int))),.bool true]) rfl (by kernel_rfl)) ?_
  refine alE fun b24 => ?_
  refine lu (mS 0 (#[Ix (id),Ix (c1.v0),Ix (c1.v1),.int .i64 (0),.int .i64 (0),Ix (c3.v0),Ix (c3.v1),.bool (decide ((c3.v2) = (1 : Int))),.bool true])) ?_
  refine lnf (cs2 (c_region (lE ofp (lE (olb 0) (lE ont (lnf (c_no rfl (csk (csr (lE (olg 0) ?_))))))))))
  refine lu (mS 1 (#[Ix (id),Ix (c1.v0),Ix (c1.v1),.int .i64 (0),.int .i64 (0),Ix (c3.v0),Ix (c3.v1),.bool (decide ((c3.v2) = (1 : Int))),.bool true])) ?_
  refine lE oab (lnf (c_ret ?_))
  refine retG (m := [.agg #[Ix (id),Ix (c1.v0),Ix (c1.v1),.int .i64 (0),.int .i64 (0),Ix (c3.v0),Ix (c3.v1),.bool (decide ((c3.v2) = (1 : Int))),.bool true],.bool true]) Tryz.results69 ⟨rd_cell tw10.ok rfl (k_pt 1 rfl rfl) rfl,rd_tmp (v := .bool true) rfl,trivial⟩ rfl ?_
  intro w hw
  exact ⟨body_ret_some (body_fix hf1 hf3 (.inl hfx)),st_mask [false,false,false,false,false] rfl hw⟩
 refine cny [sv 23 (pp b1 1) [] [] [0],sv 24 (sB va cm (vc)) [0] [0] [],sv 25 (Nx (i1)) [] [] [1],sv 26 (.pointer (some ((ba va).add (i1 * 5)))) [0,1,2] [1,2] [],sv 27 (.pointer (some (((ba va).add (i1 * 5) : Addr).add 1))) [0,1,2,3] [3] [],sv 28 (.agg #[Ix (c1.v0),Ix (c1.v1),Ix (c1.v2),Ix (c1.v3)]) [0,1,2,3,4] [4] [],sv 29 (pp b1 1) [] [] [0],sv 30 (sB va cm (vc)) [6] [6] [],sv 31 (Nx (i3)) [] [] [2],sv 32 (.pointer (some ((ba va).add (i3 * 5)))) [6,7,8] [7,8] [],sv 33 (.pointer (some (((ba va).add (i3 * 5) : Addr).add 1))) [6,7,8,9] [9] [],sv 34 (.agg #[Ix (c3.v0),Ix (c3.v1),Ix (c3.v2),Ix (c3.v3)]) [6,7,8,9,10] [10] [],⟨[],[],[],[7],fun f => f 7 = .pointer (some ⟨(blk (f 7)),0,none⟩)⟩,⟨[],[],[],[8],fun f => f 8 = .pointer (some ⟨(blk (f 8)),0,none⟩)⟩,⟨[0,1,2,3,4,5,12,13],[12,5],[],[],fun _ => True⟩,⟨(List.range 15),[13,11],[],[],fun _ => True⟩] [tk (pt b2 (.cells #[.int .i64 (0),.int .i64 (0),.int .i64 (0),.int .i64 (0),.int .i64 (0),.int .i64 (0),.int .i64 (0),.bool false,.bool false] 52)) [],tk (pt b1 (.cells #[Ix (id),sB va cm (vc)] 59)) [1,7],⟨(some 12),(some 14),[14],[7],fun f => pt (blk (f 7)) (.cells #[.int .i64 (0),.int .i64 (0),.int .i64 (0),.int .i64 (0)] 118)⟩,⟨(some 13),(some 15),[15],[8],fun f => pt (blk (f 8)) (.cells #[.int .i64 (0),.int .i64 (0),.int .i64 (0),.int .i64 (0)] 118)⟩,⟨(some 14),none,[],[7],fun f => pt (blk (f 7)) (.cells #[Ix (c1.v0),Ix (c1.v1),Ix (c1.v2),Ix (c1.v3)] 118)⟩,⟨(some 15),none,[],[8],fun f => pt (blk (f 8)) (.cells #[Ix (c3.v0),Ix (c3.v1),Ix (c3.v2),Ix (c3.v3)] 118)⟩] [(1,pp b1 0),(4,Nx (i1)),(5,Nx (i3)),(2,pp b2 0),(6,Nx (i2))] [0,3,4] [] ⟨rfl,rfl,rfl,rfl,rfl,trivial⟩ ⟨?_,?_,?_,?_,?_,?_,?_,?_,?_,?_,?_,?_,?_,?_,?_,?_,trivial⟩ ?_
 ·rintro f M - ⟨i0,-⟩
  exact obE ofp
 ·rintro f M ⟨k0,-⟩ -
  exact obE (ols 0)
 ·rintro f M - ⟨i0,-⟩
  exact obE omi
 ·rintro f M ⟨k0,k1,-⟩ -
  exact ob0 (up_cons (d := 25) (up_cons (d := 24) rfl k0) k1) rfl (e_indexAddr rfl rfl tw3 (by omega) ha1) (.refl _)
 ·rintro f M ⟨k0,-⟩ -
  exact obE ofa
 ·rintro f M ⟨k0,-⟩ -
  exact ob0 (up_cons (d := 27) rfl k0) rfl (e_load tw12.ok rfl (Knows.imp (kB hc1) (fun _ h => Cs.sub (vs := [Ix (c1.v0),Ix (c1.v1),Ix (c1.v2),Ix (c1.v3)]) 1 h rfl)) rfl) (.refl _)
 ·rintro f M - ⟨i0,-⟩
  exact obE ofp
 ·rintro f M ⟨k0,-⟩ -
  exact obE (ols 0)
 ·rintro f M - ⟨i0,-⟩
  exact obE omi
 ·rintro f M ⟨k0,k1,-⟩ -
  exact ob0 (up_cons (d := 31) (up_cons (d := 30) rfl k0) k1) rfl (e_indexAddr rfl rfl tw3 (by omega) ha3) (.refl _)
 ·rintro f M ⟨k0,-⟩ -
  exact obE ofa
 ·rintro f M ⟨k0,-⟩ -
  exact ob0 (up_cons (d := 33) rfl k0) rfl (e_load tw12.ok rfl (Knows.imp (kB hc3) (fun _ h => Cs.sub (vs := [Ix (c3.v0),Ix (c3.v1),Ix (c3.v2),Ix (c3.v3)]) 1 h rfl)) rfl) (.refl _)
 ·rintro f M - -
  refine ob_start (L' := M) (by rfl) rfl (alE fun b26 => l_nil ?_)
  exact f_owes_d rfl rfl (perm_front 0 rfl)
 ·rintro f M - -
  refine ob_start (L' := M) (by rfl) rfl (alE fun b28 => l_nil ?_)
  exact f_owes_d rfl rfl (perm_front 0 rfl)
 ·rintro f M ⟨k0,k1,-⟩ -
  have hs7 : f 7 = .pointer (some ⟨(blk (f 7)),0,none⟩) := k0
  refine ob_start (L' := pt (blk (f 7)) (.cells #[.int .i64 (0),.int .i64 (0),.int .i64 (0),.int .i64 (0)] 118) :: M) (by rfl) (up_cons (d := 28) (up_cons rfl hs7) k1) ?_
  refine lu (mS 0 (#[Ix (c1.v0),Ix (c1.v1),Ix (c1.v2),Ix (c1.v3)])) (l_nil ?_)
  exact f_owes_n (up_cons (d := 28) (up_cons rfl hs7) k1) trivial (perm_front 0 rfl)
 ·rintro f M ⟨k0,k1,-⟩ -
  have hs8 : f 8 = .pointer (some ⟨(blk (f 8)),0,none⟩) := k0
  refine ob_start (L' := pt (blk (f 8)) (.cells #[.int .i64 (0),.int .i64 (0),.int .i64 (0),.int .i64 (0)] 118) :: M) (by rfl) (up_cons (d := 34) (up_cons rfl hs8) k1) ?_
  refine lu (mS 0 (#[Ix (c3.v0),Ix (c3.v1),Ix (c3.v2),Ix (c3.v3)])) (l_nil ?_)
  exact f_owes_n (up_cons (d := 34) (up_cons rfl hs8) k1) trivial (perm_front 0 rfl)
 rintro fa29 ⟨-,-,-,-,-,-,-,-,-,-,-,-,k12,k13,-,-,-⟩ ⟨j0,j1,j2,-⟩
 refine f_re (L' := [pt b2 (.cells #[.int .i64 (0),.int .i64 (0),.int .i64 (0),.int .i64 (0),.int .i64 (0),.int .i64 (0),.int .i64 (0),.bool false,.bool false] 52),pt b1 (.cells #[Ix (id),sB va cm (vc)] 59),pt (blk (fa29 7)) (.cells #[Ix (c1.v0),Ix (c1.v1),Ix (c1.v2),Ix (c1.v3)] 118),pt (blk (fa29 8)) (.cells #[Ix (c3.v0),Ix (c3.v1),Ix (c3.v2),Ix (c3.v3)] 118)]) (by rfl) ?_
 refine f_rebase (d := 1) j0 (f_rebase (d := 2) j1 (f_rebase (d := 6) j2 (f_rebase (d := 7) k12 (f_rebase (d := 8) k13 (ftc (lE ofp (lE (oli 1) ?_)))))))
 refine lv (v := .pointer (some ⟨(blk (fa29 7)),0,none⟩)) (e_indexArrK (b := (blk (fa29 7))) (o := 0) (k := 0) rfl rfl tw16.ok (by decide)) ?_
 refine lE (oli 2) ?_
 refine lv (v := .pointer (some ⟨(blk (fa29 7)),1,none⟩)) (e_indexArrK (b := (blk (fa29 7))) (o := 0) (k := 1) rfl rfl tw16.ok (by decide)) ?_
 refine lE (oli 2) ?_
 refine lv (v := .agg #[Ix (c1.v0),Ix (c1.v1)]) (e_build tw18.ok tw17 (vs := [(0,Ix (c1.v0)),(1,Ix (c1.v1))]) (cells := #[Ix (c1.v0),Ix (c1.v1)]) rfl rfl) ?_
 refine lv (v := .pointer (some ⟨(blk (fa29 8)),0,none⟩)) (e_indexArrK (b := (blk (fa29 8))) (o := 0) (k := 0) rfl rfl tw16.ok (by decide)) ?_
 refine lE (oli 3) ?_
 refine lv (v := .pointer (some ⟨(blk (fa29 8)),1,none⟩)) (e_indexArrK (b := (blk (fa29 8))) (o := 0) (k := 1) rfl rfl tw16.ok (by decide)) ?_
 refine lE (oli 3) ?_
 refine lv (v := .pointer (some ⟨(blk (fa29 8)),2,none⟩)) (e_indexArrK (b := (blk (fa29 8))) (o := 0) (k := 2) rfl rfl tw16.ok (by decide)) ?_
 refine lE (oli 3) (lE oeq_ ?_)
 refine lv (v := .pointer (some ⟨(blk (fa29 8)),3,none⟩)) (e_indexArrK (b := (blk (fa29 8))) (o := 0) (k := 3) rfl rfl tw16.ok (by decide)) ?_
 refine lE (oli 3) (lE oeq_ (lE omb (l_split (s := 52) rfl (fun h => ?_) (fun h => ?_))))
 exact absurd h hfx
 refine gE omi (gE olt (lE okfb ?_))
 refine lv (v := .agg #[Ix (id),Ix (c1.v0),Ix (c1.v1),.int .i64 (0),.int .i64 (0),Ix (c3.v0),Ix (c3.v1),.bool (decide ((c3.v2) = (1 : Int))),.bool (decide (((i2 : Nat) : Int) < (0 : Int)))]) (e_build tw6.ok tw9 (vs := [(0,Ix (id)),(1,.agg #[Ix (c1.v0),Ix (c1.v1)]),(3,Ix (c3.v0)),(4,Ix (c3.v1)),(5,.bool (decide ((c3.v2) = (1 : Int)))),(6,.bool (decide (((i2 : Nat) : Int) < (0 : Int))))]) (cells := #[Ix (id),Ix (c1.v0),Ix (c1.v1),.int .i64 (0),.int .i64 (0),Ix (c3.v0),Ix (c3.v1),.bool (decide ((c3.v2) = (1 : Int))),.bool (decide (((i2 : Nat) : Int) < (0 : Int)))]) rfl (by kernel_rfl)) ?_
 refine alE fun b30 => ?_
 refine lu (mS 0 (#[Ix (id),Ix (c1.v0),Ix (c1.v1),.int .i64 (0),.int .i64 (0),Ix (c3.v0),Ix (c3.v1),.bool (decide ((c3.v2) = (1 : Int))),.bool (decide (((i2 : Nat) : Int) < (0 : Int)))])) ?_
 refine lnf (cs2 (c_region (lE ofp (lE (olb 0) (lE ond (lnf (c_if _ rfl (fun hc31 => ?_) (fun hc31 => ?_))))))))
 ·refine cny [sv 60 (pp b1 1) [] [] [0],sv 61 (sB va cm (vc)) [0] [0] [],sv 62 (Nx (i2)) [] [] [1],sv 63 (.pointer (some ((ba va).add (i2 * 5)))) [0,1,2] [1,2] [],sv 64 (.pointer (some (((ba va).add (i2 * 5) : Addr).add 1))) [0,1,2,3] [3] [],sv 65 (.pointer (some ((((ba va).add (i2 * 5) : Addr).add 1 : Addr).add (0 * 1)))) [0,1,2,3,4] [4] [],sv 66 (Ix (c2.v0)) (List.range 6) [5] [],sv 67 (pp b1 1) [] [] [0],sv 68 (sB va cm (vc)) [7] [7] [],sv 69 (Nx (i2)) [] [] [1],sv 70 (.pointer (some ((ba va).add (i2 * 5)))) [7,8,9] [8,9] [],sv 71 (.pointer (some (((ba va).add (i2 * 5) : Addr).add 1))) [7,8,9,10] [10] [],sv 72 (.pointer (some ((((ba va).add (i2 * 5) : Addr).add 1 : Addr).add (1 * 1)))) [7,8,9,10,11] [11] [],sv 73 (Ix (c2.v1)) [7,8,9,10,11,12] [12] [],sv 74 (.agg #[Ix (c2.v0),Ix (c2.v1)]) (List.range 14) [6,13] [],sv 75 (pp b30 3) (List.range 15) [] [2],⟨(List.range 16),[15,14],[],[],fun _ => True⟩] [⟨none,(some 16),[16],[],fun _ => pt b30 (.cells #[Ix (id),Ix (c1.v0),Ix (c1.v1),.int .i64 (0),.int .i64 (0),Ix (c3.v0),Ix (c3.v1),.bool (decide ((c3.v2) = (1 : Int))),.bool (decide (((i2 : Nat) : Int) < (0 : Int)))] 52)⟩,tk (pt b2 (.cells #[.int .i64 (0),.int .i64 (0),.int .i64 (0),.int .i64 (0),.int .i64 (0),.int .i64 (0),.int .i64 (0),.bool false,.bool false] 52)) [],tk (pt b1 (.cells #[Ix (id),sB va cm (vc)] 59)) [1,8],tk (pt (blk (fa29 7)) (.cells #[Ix (c1.v0),Ix (c1.v1),Ix (c1.v2),Ix (c1.v3)] 118)) [],tk (pt (blk (fa29 8)) (.cells #[Ix (c3.v0),Ix (c3.v1),Ix (c3.v2),Ix (c3.v3)] 118)) [],⟨(some 16),none,[],[],fun _ => pt b30 (.cells #[Ix (id),Ix (c1.v0),Ix (c1.v1),Ix (c2.v0),Ix (c2.v1),Ix (c3.v0),Ix (c3.v1),.bool (decide ((c3.v2) = (1 : Int))),.bool (decide (((i2 : Nat) : Int) < (0 : Int)))] 52)⟩] [(1,pp b1 0),(6,Nx (i2)),(9,pp b30 0),(2,pp b2 0)] [3,2] [] ⟨rfl,rfl,rfl,rfl,trivial⟩ ⟨?_,?_,?_,?_,?_,?_,?_,?_,?_,?_,?_,?_,?_,?_,?_,?_,?_,trivial⟩ ?_
  ·rintro f M - ⟨i0,-⟩
   exact obE ofp
  ·rintro f M ⟨k0,-⟩ -
   exact obE (ols 0)
  ·rintro f M - ⟨i0,-⟩
   exact obE omi
  ·rintro f M ⟨k0,k1,-⟩ -
   exact ob0 (up_cons (d := 62) (up_cons (d := 61) rfl k0) k1) rfl (e_indexAddr rfl rfl tw3 (by omega) ha2) (.refl _)
  ·rintro f M ⟨k0,-⟩ -
   exact obE ofa
  ·rintro f M ⟨k0,-⟩ -
   exact ob0 (up_cons (d := 64) rfl k0) rfl (e_indexArr (a := ((ba va).add (i2 * 5) : Addr).add 1) (k := 0) rfl rfl tw16.ok (by decide)) (.refl _)
  ·rintro f M ⟨k0,-⟩ -
   exact ob0 (up_cons (d := 65) rfl k0) rfl (e_load1 tw15.ok rfl (Knows.imp (Knows.imp (kB hc2) (fun _ h => Cs.sub (vs := [Ix (c2.v0),Ix (c2.v1),Ix (c2.v2),Ix (c2.v3)]) 1 h rfl)) (fun _ h => Cs.sub (vs := [Ix (c2.v0)]) (0 * 1) h rfl))) (.refl _)
  ·rintro f M - ⟨i0,-⟩
   exact obE ofp
  ·rintro f M ⟨k0,-⟩ -
   exact obE (ols 0)
  ·rintro f M - ⟨i0,-⟩
   exact obE omi
  ·rintro f M ⟨k0,k1,-⟩ -
   exact ob0 (up_cons (d := 69) (up_cons (d := 68) rfl k0) k1) rfl (e_indexAddr rfl rfl tw3 (by omega) ha2) (.refl _)
  ·rintro f M ⟨k0,-⟩ -
   exact obE ofa
  ·rintro f M ⟨k0,-⟩ -
   exact ob0 (up_cons (d := 71) rfl k0) rfl (e_indexArr (a := ((ba va).add (i2 * 5) : Addr).add 1) (k := 1) rfl rfl tw16.ok (by decide)) (.refl _)
  ·rintro f M ⟨k0,-⟩ -
   exact ob0 (up_cons (d := 72) rfl k0) rfl (e_load1 tw15.ok rfl (Knows.imp (Knows.imp (kB hc2) (fun _ h => Cs.sub (vs := [Ix (c2.v0),Ix (c2.v1),Ix (c2.v2),Ix (c2.v3)]) 1 h rfl)) (fun _ h => Cs.sub (vs := [Ix (c2.v1)]) (1 * 1) h rfl))) (.refl _)
  ·rintro f M ⟨k0,k1,-⟩ -
   exact ob0 (up_cons (d := 73) (up_cons (d := 66) rfl k0) k1) rfl (e_build tw18.ok tw17 (vs := [(0,Ix (c2.v0)),(1,Ix (c2.v1))]) (cells := #[Ix (c2.v0),Ix (c2.v1)]) rfl rfl) (.refl _)
  ·rintro f M - ⟨i0,-⟩
   exact obE ofp
  ·rintro f M ⟨k0,k1,-⟩ -
   refine ob_start (L' := pt b30 (.cells #[Ix (id),Ix (c1.v0),Ix (c1.v1),.int .i64 (0),.int .i64 (0),Ix (c3.v0),Ix (c3.v1),.bool (decide ((c3.v2) = (1 : Int))),.bool (decide (((i2 : Nat) : Int) < (0 : Int)))] 52) :: M) (by rfl) (up_cons (d := 74) (up_cons (d := 75) rfl k0) k1) ?_
   refine lu (mS 0 (#[Ix (id),Ix (c1.v0),Ix (c1.v1),Ix (c2.v0),Ix (c2.v1),Ix (c3.v0),Ix (c3.v1),.bool (decide ((c3.v2) = (1 : Int))),.bool (decide (((i2 : Nat) : Int) < (0 : Int)))])) ?_
   refine l_nil ?_
   exact f_owes_n (up_cons (d := 74) (up_cons (d := 75) rfl k0) k1) trivial (perm_front 0 rfl)
  rintro fa32 ⟨-,-,-,-,-,-,-,-,-,-,-,-,-,-,-,-,-,-⟩ ⟨j0,j1,-⟩
  refine f_re (L' := [pt b2 (.cells #[.int .i64 (0),.int .i64 (0),.int .i64 (0),.int .i64 (0),.int .i64 (0),.int .i64 (0),.int .i64 (0),.bool false,.bool false] 52),pt b1 (.cells #[Ix (id),sB va cm (vc)] 59),pt (blk (fa29 7)) (.cells #[Ix (c1.v0),Ix (c1.v1),Ix (c1.v2),Ix (c1.v3)] 118),pt (blk (fa29 8)) (.cells #[Ix (c3.v0),Ix (c3.v1),Ix (c3.v2),Ix (c3.v3)] 118),pt b30 (.cells #[Ix (id),Ix (c1.v0),Ix (c1.v1),Ix (c2.v0),Ix (c2.v1),Ix (c3.v0),Ix (c3.v1),.bool (decide ((c3.v2) = (1 : Int))),.bool (decide (((i2 : Nat) : Int) < (0 : Int)))] 52)]) (by rfl) ?_
  refine f_rebase (d := 2) j0 (f_rebase (d := 9) j1 (ftc (lE (olg 4) ?_)))
  refine lu (mS 0 (#[Ix (id),Ix (c1.v0),Ix (c1.v1),Ix (c2.v0),Ix (c2.v1),Ix (c3.v0),Ix (c3.v1),.bool (decide ((c3.v2) = (1 : Int))),.bool (decide (((i2 : Nat) : Int) < (0 : Int)))])) ?_
  refine lE oab (lnf (c_ret ?_))
  refine retG (m := [.agg #[Ix (id),Ix (c1.v0),Ix (c1.v1),Ix (c2.v0),Ix (c2.v1),Ix (c3.v0),Ix (c3.v1),.bool (decide ((c3.v2) = (1 : Int))),.bool (decide (((i2 : Nat) : Int) < (0 : Int)))],.bool true]) Tryz.results69 ⟨rd_cell tw10.ok rfl (k_pt 0 rfl rfl) rfl,rd_tmp (v := .bool true) rfl,trivial⟩ rfl ?_
  intro w hw
  exact ⟨body_ret_some (body_mov hf1 hf3 hfx hf2),st_mask [false,false,false,false,false] rfl hw⟩
 exact absurd (by omega) hc31
set_option maxHeartbeats 4000000 in
theorem rbodies_ok (β : Base) (w : World) (hw : St β [] w) (tick : Int) (v rv : Value) (gx gy : Int) (es : List KEnt) (rs : List KR) (hs : Sl EntR β.heap v es) (hr : Sl KRR β.heap rv rs) (hn : es.length ≤ 65536) (hrn : rs.length ≤ 65536) : Calls Tryz.prog 20 #[.agg #[Ix tick, v], rv, .agg #[Ix gx, Ix gy]] w fun r w' => ∃ p c p2 c2, r = .returned (.agg #[sB p (bodiesOf es) c, sB p2 (ropesOf (bodiesOf es) rs) c2, Ix gx, Ix gy]) ∧ St β [rowF BodyF 52 p c (bodiesOf es), rowF RopeF 78 p2 c2 (ropesOf (bodiesOf es) rs)] w' := by
 obtain ⟨va,vc,rfl,vl,vm,ve⟩ := hs.get
 obtain ⟨rva,rvc,rfl,rvl,rvm,rve⟩ := hr.get
 refine enter (n := 73) Tryz.func20 rfl Tryz.ntmps20 rfl ?_ hw
 refine csr (bxa fun b1 => ?_)
 refine bxa fun b2 => ?_
 refine alE fun b3 => lnc (lE (olg 1) ?_)
 refine lv (v := .agg #[.slice none 0 0,.slice none 0 0,Ix (gx),Ix (gy)]) (e_build tw23.ok tw24 (vs := [(2,.agg #[Ix (gx),Ix (gy)])]) (cells := #[.slice none 0 0,.slice none 0 0,Ix (gx),Ix (gy)]) rfl rfl) ?_
 refine alE fun b4 => lu (mS 0 (#[.slice none 0 0,.slice none 0 0,Ix (gx),Ix (gy)])) (lnf (cs2 ?_))
 refine c_emp (r := rowF BodyF 52 none 0 []) (row_nil _ _ _) (c_region (lE oai (lnf (c_block (c_mask [true,true,true,true,true] rfl ?_)))))
 refine c_loop (fun (x_ : Nat × List KB × Option Addr × Nat) f L => match x_ with | (k,out,p,c) => (f 1 = sB rva rs (rvc) ∧ f 3 = pp b1 0 ∧ f 6 = pp b3 0 ∧ f 7 = pp b4 0 ∧ f 8 = Nx (k)) ∧ L = [rowF BodyF 52 p c out,pt b4 (.cells #[sB p out c,.slice none 0 0,Ix (gx),Ix (gy)] 30),pt b3 (.cells #[.slice none 0 0,.slice none 0 0,.int .i64 (0),.int .i64 (0)] 30),pt b2 (.cells #[Ix (gx),Ix (gy)] 28),pt b1 (.cells #[Ix (tick),sB va es (vc)] 24)] ∧ (k ≤ es.length ∧ out = bodiesOf (es.take k))) (fun (k,out,p,c) => es.length - k) (0,[],none,0) ?_ ?_
 ·exact ⟨⟨rfl,rfl,rfl,rfl,rfl⟩,rfl,⟨by omega,rfl⟩⟩
 rintro ⟨k,out,p,c⟩ f0 L0 ⟨⟨hs1,hs3,hs6,hs7,hs8⟩,hL,⟨hk,ho⟩⟩
 subst L0
 refine rbs 1 hs1 (rbs 3 hs3 (rbs 6 hs6 (rbs 7 hs7 (rbs 8 hs8 ?_))))
 have hol := bodies_le es k
 rw [← ho] at hol
 refine cs2 (c_region (lE omi (lE ofp (lE (ols 4) (lE oln (lE olt (lnf (c_if _ rfl (fun hc5 => ?_) (fun hc5 => ?_)))))))))
 ·refine csk (c_seq (c_block (csr (lE ofp (lE (ols 4) (lE omi ?_))))))
  obtain ⟨x6,hx7⟩ := getx es k (by omega)
  obtain ⟨ha8,cs9,hc10,hr11⟩ := ve _ _ hx7
  obtain ⟨v12,rfl,hv13⟩ := hr11
  obtain ⟨v12a,v12c,rfl,v12l,v12m,v12e⟩ := hv13.get
  refine lE (oia tw29 ha8) (lv (v := .agg #[Ix (x6.id),sB v12a x6.comps (v12c)]) (e_load tw7.ok rfl (kB hc10) rfl) ?_)
  refine lcR clA (fun w β1 sb kn hw1 => rbody_ok β1 w hw1 (x6.id) v12a v12c x6.comps (Sl.mono _ _ _ _ _ sb (⟨⟨_,_,rfl,v12l,v12m,v12e⟩⟩ : Sl CompR _ _ x6.comps))) ?_
  refine lE omt (lE oxa (lE oxb (alE fun b14 => lu (mS 0 (bC (bodyD (x6.id) x6.comps))) (lE oab (lnc (lE omb (lnf ?_)))))))
  refine c_ifb ((bodyOf (x6.id) x6.comps).isSome) rfl (fun hc15 => ?_) (fun hc15 => ?_)
  ·refine c_region (lE ofp (lE (ols 2) (lE (olg 0) ?_)))
   refine l_mv rfl rfl rfl (m_slices tw33 tw6.ok (cells := (bC (bodyD (x6.id) x6.comps))) rfl rfl rfl (by kernel_rfl)) ?_
   rintro _ _ ⟨b16,rfl,rfl⟩
   refine l_mv rfl rfl rfl (m_appendFlN (F := BodyF) 2 tw33 tw34 (p := p) (m := out.length) (xs := out) (ys := [(bodyD (x6.id) x6.comps)]) (ao := (some ⟨b16,0,none⟩)) (k := 1) (c := 1) rfl rfl rfl rfl rfl (k_ptFl (z := (bodyD (x6.id) x6.comps)) 0 rfl rfl) (by first | omega | simp only [List.length_nil,List.length_cons,List.length_append,List.length_set]; omega) (by first | omega | simp only [List.length_nil,List.length_cons,List.length_append,List.length_set]; omega)) ?_
   rintro _ _ ⟨rp17,rc18,rfl,rfl⟩
   refine lE ofp (lu (mS 3 (#[sB rp17 (out ++ [(bodyD (x6.id) x6.comps)]) rc18,.slice none 0 0,Ix (gx),Ix (gy)])) (l_nil (f_block (f_then (c_region ?_)))))
   refine lE omi (lv (v := Nx (k + 1)) (e_add rfl rfl (i64n (by omega) (by omega))) (lE oai (l_nil (f_mask [false,false,true,true,true,true,true] rfl ?_))))
   exact f_cut ⟨(k + 1,(out ++ [(bodyD (x6.id) x6.comps)]),rp17,rc18),⟨⟨rfl,rfl,rfl,rfl,rfl⟩,rfl,⟨by omega,by rw [bodies_yes hx7 hc15,← ho]⟩⟩,(show es.length - (k + 1) < es.length - k from by omega)⟩
  refine c_skip (f_block (f_then (c_region (lE omi (lv (v := Nx (k + 1)) (e_add rfl rfl (i64n (by omega) (by omega))) (lE oai (l_nil ?_)))))))
  refine f_mask [false,true,true,true,true,true] rfl ?_
  exact f_cut ⟨(k + 1,out,p,c),⟨⟨rfl,rfl,rfl,rfl,rfl⟩,rfl,⟨by omega,by rw [bodies_no hx7 hc15,← ho]⟩⟩,(show es.length - (k + 1) < es.length - k from by omega)⟩
 refine c_exit (f_then_exit (f_then_exit (f_exit (fts (c_seq ?_)))))
 have hoe : out = bodiesOf es := by rw [ho,List.take_of_length_le (by omega)]
 refine c_emp (r := rowF RopeF 78 none 0 []) (row_nil _ _ _) (c_region (lE oai (lnf (c_block (c_mask [true,true,true,true,true,true] rfl ?_)))))
 refine c_loop (fun (x_ : Nat × List KR × Option Addr × Nat) f L => match x_ with | (k2,R,rp,rc) => (f 1 = sB rva rs (rvc) ∧ f 6 = pp b3 0 ∧ f 7 = pp b4 0 ∧ f 11 = Nx (k2)) ∧ L = [rowF RopeF 78 rp rc R,rowF BodyF 52 p c out,pt b4 (.cells #[sB p out c,sB rp R rc,Ix (gx),Ix (gy)] 30),pt b3 (.cells #[.slice none 0 0,.slice none 0 0,.int .i64 (0),.int .i64 (0)] 30),pt b2 (.cells #[Ix (gx),Ix (gy)] 28),pt b1 (.cells #[Ix (tick),sB va es (vc)] 24)] ∧ (k2 ≤ rs.length ∧ R = ropesOf out (rs.take k2))) (fun (k2,R,rp,rc) => rs.length - k2) (0,[],none,0) ?_ ?_
 ·exact ⟨⟨rfl,rfl,rfl,rfl⟩,rfl,⟨by omega,rfl⟩⟩
 rintro ⟨k2,R,rp,rc⟩ f0 L0 ⟨⟨hs1,hs6,hs7,hs11⟩,hL,⟨hk2,hR⟩⟩
 subst L0
 refine rbs 1 hs1 (rbs 6 hs6 (rbs 7 hs7 (rbs 11 hs11 ?_)))
 have hRl := ropes_le out rs k2
 rw [← hR] at hRl
 refine cs2 (c_region (lE omi (lE oms (lE oln (lE olt (lnf (c_if _ rfl (fun hc19 => ?_) (fun hc19 => ?_))))))))
 ·refine csk (c_seq (c_block (c_seq (c_quiet (by kernel_rfl) (by kernel_rfl) (qE ofp (qE (ols 2) (qE oms (qE omi ?_))))))))
  obtain ⟨x20,hx21⟩ := getx rs k2 (by omega)
  obtain ⟨ha22,cs23,hc24,rfl⟩ := rve _ _ hx21
  refine qE (oia tw36 ha22) (qE ofa ?_)
  refine q_val (v := Ix (x20.a)) rfl rfl rfl (e_load1 tw15.ok rfl (Knows.imp (kB hc24) (fun _ h => Cs.sub (vs := [Ix (x20.a)]) 0 h rfl))) ?_
  refine q_call (v := Ix ((idxI (fun y : KB => decide (y.id = (x20.a))) out))) rfl rfl rfl (cl0 (vs := [sB p out c,Ix (x20.a)]) tw38.ok rfl rfl) (fun w hw => ?_) ?_
  ·obtain ⟨β1,sb,kn,hw1,back⟩ := St.frame_all hw
   exact (find7_ok β1 w hw1 _ out (kn _ (k_flN 1 (F := BodyF) (m := out.length) (xs := out) rfl rfl)) (x20.a)).mono (fun e w' ⟨he,hw'⟩ => ⟨he,st_mask [true,true,true,true,true,true] rfl (back _ _ hw')⟩)
  refine qE oge (qE omb (q_split (s := 52) rfl (fun hg26 => ?_) (fun hg26 => ?_)))
  ·refine rE ofp (rE (ols 2) (rE oms (rE omi (rE (oia tw36 ha22) (rE ofa ?_)))))
   refine qg_val (v := Ix (x20.b)) rfl rfl rfl rfl rfl (e_load1 tw15.ok rfl (Knows.imp (kB hc24) (fun _ h => Cs.sub (vs := [Ix (x20.b)]) 1 h rfl))) ?_
   refine qg_call (v := Ix ((idxI (fun y : KB => decide (y.id = (x20.b))) out))) rfl rfl rfl rfl rfl (cl0 (vs := [sB p out c,Ix (x20.b)]) tw38.ok rfl rfl) (fun w hw => ?_) ?_
   ·obtain ⟨β1,sb,kn,hw1,back⟩ := St.frame_all hw
    exact (find7_ok β1 w hw1 _ out (kn _ (k_flN 1 (F := BodyF) (m := out.length) (xs := out) rfl rfl)) (x20.b)).mono (fun e w' ⟨he,hw'⟩ => ⟨he,st_mask [true,true,true,true,true,true] rfl (back _ _ hw')⟩)
   refine rE oge (qE oktb (q_nil (f_then (c_if _ rfl (fun hc27 => ?_) (fun hc27 => ?_)))))
   ·refine cny [sv 63 (pp b4 1) [] [] [0],sv 64 (sB rp R rc) [0] [0] [],sv 65 (sB rva rs (rvc)) [] [] [1],sv 66 (Nx (k2)) [] [] [2],sv 67 (.pointer (some ((ba rva).add (k2 * 3)))) [2,3] [2,3] [],sv 68 (.agg #[Ix (x20.a),Ix (x20.b),Ix (x20.len)]) [2,3,4] [4] [],⟨[2,3,4,5],[5],[],[69],fun f => f 69 = .slice (some ⟨(blk (f 69)),0,none⟩) 1 1⟩,⟨(List.range 7),[1,6],[],[70],fun f => f 70 = sB (sla (f 70)) (R ++ [x20]) (slc (f 70))⟩,sv 71 (pp b4 1) (List.range 8) [] [0],⟨(List.range 9),[8,7],[],[],fun _ => True⟩] [⟨none,(some 7),[7],[],fun _ => rowF RopeF 78 rp rc R⟩,tk (rowF BodyF 52 p c out) [],⟨none,(some 9),[1,9],[],fun _ => pt b4 (.cells #[sB p out c,sB rp R rc,Ix (gx),Ix (gy)] 30)⟩,tk (pt b3 (.cells #[.slice none 0 0,.slice none 0 0,.int .i64 (0),.int .i64 (0)] 30)) [],tk (pt b2 (.cells #[Ix (gx),Ix (gy)] 28)) [],tk (pt b1 (.cells #[Ix (tick),sB va es (vc)] 24)) [],⟨(some 6),none,[7],[69],fun f => pt (blk (f 69)) (.cells #[Ix (x20.a),Ix (x20.b),Ix (x20.len)] 78)⟩,⟨(some 7),none,[],[70],fun f => rowF RopeF 78 (sla (f 70)) (slc (f 70)) (R ++ [x20])⟩,⟨(some 9),none,[],[70],fun f => pt b4 (.cells #[sB p out c,sB (sla (f 70)) (R ++ [x20]) (slc (f 70)),Ix (gx),Ix (gy)] 30)⟩] [(7,pp b4 0),(1,sB rva rs (rvc)),(11,Nx (k2)),(6,pp b3 0)] [1,3,0,2] [] ⟨rfl,rfl,rfl,rfl,trivial⟩ ⟨?_,?_,?_,?_,?_,?_,?_,?_,?_,?_,trivial⟩ ?_
    ·rintro f M - ⟨i0,-⟩
     exact obE ofp
    ·rintro f M ⟨k0,-⟩ -
     exact obE (ols 0)
    ·rintro f M - ⟨i0,-⟩
     exact obE oms
    ·rintro f M - ⟨i0,-⟩
     exact obE omi
    ·rintro f M ⟨k0,k1,-⟩ -
     exact ob0 (up_cons (d := 66) (up_cons (d := 65) rfl k0) k1) rfl (e_indexAddr rfl rfl tw36 (by omega) ha22) (.refl _)
    ·rintro f M ⟨k0,-⟩ -
     exact ob0 (up_cons (d := 67) rfl k0) rfl (e_load tw42.ok rfl (kB hc24) rfl) (.refl _)
    ·rintro f M ⟨k0,-⟩ -
     refine ob_start (L' := M) (by rfl) (up_cons (d := 68) rfl k0) ?_
     refine l_mv rfl rfl rfl (m_slices tw36 tw43.ok (cells := #[Ix (x20.a),Ix (x20.b),Ix (x20.len)]) rfl rfl rfl rfl) ?_
     rintro _ _ ⟨b29,rfl,rfl⟩
     refine l_nil ?_
     exact f_owes_d (up_cons (d := 68) rfl k0) rfl (perm_front 0 rfl)
    ·rintro f M ⟨k0,k1,-⟩ -
     have hs69 : f 69 = .slice (some ⟨(blk (f 69)),0,none⟩) 1 1 := k1
     refine ob_start (L' := rowF RopeF 78 rp rc R :: pt (blk (f 69)) (.cells #[Ix (x20.a),Ix (x20.b),Ix (x20.len)] 78) :: M) (by rfl) (up_cons (up_cons (d := 64) rfl k0) hs69) ?_
     refine l_mv rfl rfl rfl (m_appendFlN (F := RopeF) 0 tw36 tw44 (p := rp) (m := R.length) (xs := R) (ys := [x20]) (ao := (some ⟨(blk (f 69)),0,none⟩)) (k := 1) (c := 1) rfl rfl rfl rfl rfl (k_ptFl (z := x20) 1 rfl rfl) (by first | omega | simp only [List.length_nil,List.length_cons,List.length_append,List.length_set]; omega) (by first | omega | simp only [List.length_nil,List.length_cons,List.length_append,List.length_set]; omega)) ?_
     rintro _ _ ⟨rp32,rc33,rfl,rfl⟩
     refine l_nil ?_
     exact f_owes_d (up_cons (up_cons (d := 64) rfl k0) hs69) rfl ((perm_front 0 rfl).trans (perm_front 1 rfl))
    ·rintro f M - ⟨i0,-⟩
     exact obE ofp
    ·rintro f M ⟨k0,k1,-⟩ -
     have hs70 : f 70 = sB (sla (f 70)) (R ++ [x20]) (slc (f 70)) := k1
     refine ob_start (L' := pt b4 (.cells #[sB p out c,sB rp R rc,Ix (gx),Ix (gy)] 30) :: M) (by rfl) (up_cons (up_cons (d := 71) rfl k0) hs70) ?_
     refine lu (mS 0 (#[sB p out c,sB (sla (f 70)) (R ++ [x20]) (slc (f 70)),Ix (gx),Ix (gy)])) (l_nil ?_)
     exact f_owes_n (up_cons (up_cons (d := 71) rfl k0) hs70) trivial (perm_front 0 rfl)
    rintro fa34 ⟨-,-,-,-,-,-,-,-,-,-,-⟩ ⟨j0,j1,j2,j3,-⟩
    refine f_re (L' := [rowF BodyF 52 p c out,pt b3 (.cells #[.slice none 0 0,.slice none 0 0,.int .i64 (0),.int .i64 (0)] 30),pt b2 (.cells #[Ix (gx),Ix (gy)] 28),pt b1 (.cells #[Ix (tick),sB va es (vc)] 24),pt (blk (fa34 69)) (.cells #[Ix (x20.a),Ix (x20.b),Ix (x20.len)] 78),rowF RopeF 78 (sla (fa34 70)) (slc (fa34 70)) (R ++ [x20]),pt b4 (.cells #[sB p out c,sB (sla (fa34 70)) (R ++ [x20]) (slc (fa34 70)),Ix (gx),Ix (gy)] 30)]) (by rfl) ?_
    refine f_rebase (d := 1) j0 (f_rebase (d := 6) j1 (f_rebase (d := 7) j2 (f_rebase (d := 11) j3 (f_block (f_then (c_region (lE omi ?_)))))))
    refine lv (v := Nx (k2 + 1)) (e_add rfl rfl (i64n (by omega) (by omega))) (lE oai (l_nil ?_))
    refine f_perm (L' := [rowF RopeF 78 (sla (fa34 70)) (slc (fa34 70)) (R ++ [x20]),rowF BodyF 52 p c out,pt b4 (.cells #[sB p out c,sB (sla (fa34 70)) (R ++ [x20]) (slc (fa34 70)),Ix (gx),Ix (gy)] 30),pt b3 (.cells #[.slice none 0 0,.slice none 0 0,.int .i64 (0),.int .i64 (0)] 30),pt b2 (.cells #[Ix (gx),Ix (gy)] 28),pt b1 (.cells #[Ix (tick),sB va es (vc)] 24),pt (blk (fa34 69)) (.cells #[Ix (x20.a),Ix (x20.b),Ix (x20.len)] 78)]) (perm_ix [5,0,6,1,2,3,4] 7 rfl (by kernel_rfl) (by kernel_rfl)) ?_
    refine f_mask [true,true,true,true,true,true,false] rfl ?_
    exact f_cut ⟨(k2 + 1,(R ++ [x20]),(sla (fa34 70)),(slc (fa34 70))),⟨⟨rfl,rfl,rfl,rfl⟩,rfl,⟨by omega,by rw [ropes_yes hx21 (has_yes hg26) (has_yes hc27),← hR]⟩⟩,(show rs.length - (k2 + 1) < rs.length - k2 from by omega)⟩
   refine c_skip (f_block (f_then (c_region (lE omi (lv (v := Nx (k2 + 1)) (e_add rfl rfl (i64n (by omega) (by omega))) (lE oai (l_nil ?_)))))))
   exact f_cut ⟨(k2 + 1,R,rp,rc),⟨⟨rfl,rfl,rfl,rfl⟩,rfl,⟨by omega,by rw [ropes_no hx21 (by simp [has_no hc27]),← hR]⟩⟩,(show rs.length - (k2 + 1) < rs.length - k2 from by omega)⟩
  iterate 9 refine qsE ?_
  refine qE okfb (q_nil (f_then (c_no rfl (c_skip (f_block (f_then (c_region (lE omi ?_))))))))
  refine lv (v := Nx (k2 + 1)) (e_add rfl rfl (i64n (by omega) (by omega))) (lE oai (l_nil ?_))
  exact f_cut ⟨(k2 + 1,R,rp,rc),⟨⟨rfl,rfl,rfl,rfl⟩,rfl,⟨by omega,by rw [ropes_no hx21 (by simp [has_no hg26]),← hR]⟩⟩,(show rs.length - (k2 + 1) < rs.length - k2 from by omega)⟩
 refine c_exit (f_then_exit (f_then_exit (f_exit (ftc (lE (olg 2) (lu (mS 3 (#[sB p out c,sB rp R rc,Ix (gx),Ix (gy)])) (lnf (c_ret ?_))))))))
 refine retG (m := [.agg #[sB p out c,sB rp R rc,Ix (gx),Ix (gy)]]) Tryz.results20 ⟨rd_cell tw25.ok rfl (k_pt 3 rfl rfl) rfl,trivial⟩ rfl ?_
 intro w hw
 have hw2 := st_mask (L' := [rowF RopeF 78 rp rc R,rowF BodyF 52 p c out]) [true,true,false,false,false,false] rfl hw
 have hRe : R = ropesOf out rs := by rw [hR,List.take_of_length_le (by omega)]
 rw [hoe] at hRe hw2 ⊢
 rw [hRe] at hw2 ⊢
 exact ⟨p,c,rp,rc,rfl,hw2.perm (perm_ix [1,0] 2 rfl (by kernel_rfl) (by kernel_rfl))⟩
end Go.Proofs
