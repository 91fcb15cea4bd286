/-
 What a mover iterates over: the other bodies,the ends of the ropes. Printed by a program of my own.
-/
import Derived.Test.YtdkibofhppgbjaaGreatDoorSt4
import Derived.Test.YtdkibofhppgbjaaGreatDoorSlB
namespace Go.Proofs
open Go Go.Sl Go.Stp
instance tf76 : FldC Tryz.prog 87 0 0 4 true := ⟨by kernel_rfl⟩
instance tf77 : ZerC Tryz.prog 78 (.agg #[.int .i64 (0), .int .i64 (0), .int .i64 (0)]) := ⟨by kernel_rfl⟩
instance tf78 : CfC Tryz.prog 67 := ⟨by kernel_rfl⟩
instance tf79 : CfC Tryz.prog 92 := ⟨by kernel_rfl⟩
theorem bodies1_seq (β : Base) (hG : GR β) (c : Nat) (v rv : Value) (gx gy : Int) (b : KB) (y : Bool) (s : Int) (bs : List KB) (rs : List KR) (hs : Sl KBR β.heap v bs) (hr : Sl KRR β.heap rv rs) (hbs : ∀ o ∈ bs, okB o) (hrs : ∀ r ∈ rs, okR bs r) (hb : okB b) (hn : bs.length ≤ 1048576) (hc : Cs β.heap ⟨c, 0, none⟩ (mC v rv gx gy b y s).toList) : SeqOf Tryz.prog β (.func (.func 149) #[] #[pp c 0]) (fun z : KB => [.agg (bC z)]) (· = others bs b) := by
 refine ⟨149,[],[pp c 0],rfl,by kernel_rfl,fun β₁ ext l J X hY M w hJ hw => ?_⟩
 have hcM := Cs.mono _ _ _ _ ext.sub hc
 have hs := Sl.mono _ _ _ _ _ ext.sub hs
 have hr := Sl.mono _ _ _ _ _ ext.sub hr
 have hG := GR.mono ext.sub hG
 obtain ⟨va,vc,rfl,vl,vm,ve⟩ := hs.get
 obtain ⟨rva,rvc,rfl,rvl,rvm,rve⟩ := hr.get
 refine enter (n := 33) Tryz.func149 rfl Tryz.ntmps149 rfl ?_ hw
 refine csr (lE ofa (lE ofa ?_))
 refine lv (v := sB va bs (vc)) (e_load1 tf50.ok rfl (Knows.imp (Knows.imp (kB hcM) (fun _ h => Cs.sub (vs := [sB va bs (vc),sB rva rs (rvc),Ix (gx),Ix (gy)]) 0 h rfl)) (fun _ h => Cs.sub (vs := [sB va bs (vc)]) 0 h rfl))) ?_
 refine lE oln (lE omi (lnf (c_block ?_)))
 refine c_loop (fun (x_ : Nat × List Res) f L => match x_ with | (k,M) => (f 0 = yfn l ∧ f 1 = .pointer (some (⟨c,0,none⟩)) ∧ f 7 = sB va bs (vc) ∧ f 8 = Nx (bs.length) ∧ f 9 = Nx (k)) ∧ L = (M) ∧ (k ≤ bs.length ∧ J (others (bs.take k) b) M)) (fun (k,M) => bs.length - k) (0,M) ?_ ?_
 ·exact ⟨⟨rfl,rfl,rfl,rfl,rfl⟩,rfl,⟨by omega,by simpa [others] using hJ⟩⟩
 rintro ⟨k,M⟩ f0 L0 ⟨⟨hs0,hs1,hs7,hs8,hs9⟩,hL,⟨hk,hJ⟩⟩
 subst L0
 refine rbs 0 hs0 (rbs 1 hs1 (rbs 7 hs7 (rbs 8 hs8 (rbs 9 hs9 (csr (lE olt (lnf (c_seq (c_if _ rfl (fun hc1 => ?_) (fun hc1 => ?_))))))))))
 ·refine csk (c_seq (c_block (csr ?_)))
  obtain ⟨x2,hx3⟩ := getx bs k (by omega)
  obtain ⟨ha4,cs5,hc6,rfl⟩ := ve _ _ hx3
  refine lE (oia tf43 ha4) (lv (v := .agg (bC x2)) (e_load tf22.ok rfl (kB hc6) rfl) (alE fun b8 => lu (mS 0 (bC x2)) (lnc (lE ofp (lE (oli 0) ?_)))))
  refine lE ofa (lE ofa ?_)
  refine lv (v := Ix (b.id)) (e_load1 tf2.ok rfl (Knows.imp (Knows.imp (kB hcM) (fun _ h => Cs.sub (vs := (bodyE b)) 4 h rfl)) (fun _ h => Cs.sub (vs := [Ix (b.id)]) 0 h rfl))) ?_
  refine lE onq (lE omb (l_split (s := 19) rfl (fun hg9 => ?_) (fun hg9 => ?_)))
  ·refine gE (olg 0) (gE ofa ?_)
   refine g_val (v := .agg (bC b)) rfl rfl rfl rfl rfl (e_load tf22.ok rfl (Knows.imp (kB hcM) (fun _ h => Cs.sub (vs := (bodyE b)) 4 h rfl)) rfl) ?_
   refine g_call rfl rfl rfl rfl rfl (cl0 (vs := [.agg (bC x2),.agg (bC b)]) tf74.ok rfl rfl) ?_
   intro w hw
   obtain ⟨β1,sb,kn,hw1,back⟩ := St.frame_all hw
   have hG1 := GR.mono sb hG
   refine (over_ok β1 w hw1 hG1 x2 b).mono ?_
   rintro e w' ⟨rfl,hw'⟩
   refine ⟨_,rfl,_,back _ _ hw',?_⟩
   clear hw hw1 hw' back kn sb
   refine gE ond (lE oktb (lE omb (l_split (s := 26) rfl (fun hg10 => ?_) (fun hg10 => ?_))))
   ·refine g_val (v := yfn l) rfl rfl rfl rfl rfl e_move (gE (olg 0) ?_)
    refine g_yield rfl rfl (own := [pt b8 (.cells (bC x2) 52)]) (M := M) (d := 29) (enc := fun z : KB => [.agg (bC z)]) (pre := others (bs.take k) b) (x := x2) rfl rfl rfl rfl hY (⟨_,rfl,others_pre hx3 hg9 hg10⟩) hJ (fun M1 hJ1 => ?_) (fun M1 hX1 => ?_)
    ·refine gE ont (lE oktb (lnf (c_no rfl (c_skip (f_block (f_then (c_region (lv (v := Nx (k + 1)) (e_add rfl rfl (i64n (by omega) (by omega))) ?_))))))))
     refine lE omi (l_nil (f_mask [false] rfl ?_))
     exact f_cut ⟨(k + 1,M1),⟨⟨rfl,rfl,rfl,rfl,rfl⟩,rfl,⟨by omega,by rw [others_snoc hx3 hg9 hg10]; exact hJ1⟩⟩,(show bs.length - (k + 1) < bs.length - k from by omega)⟩
    refine gE ont (lE oktb (lnf (c_yes rfl (c_ret (f_block_ret (f_then_ret (f_then_ret (f_block_ret (ret0 Tryz.results149 ?_)))))))))
    intro w hw
    exact ⟨⟨_,rfl⟩,.inr ⟨_,M1,hX1,st_mask [false] rfl hw⟩⟩
   refine skE (skE (skE (skE (lE okfb (lnf (c_no rfl (c_skip (f_block (f_then (c_region ?_))))))))))
   refine lv (v := Nx (k + 1)) (e_add rfl rfl (i64n (by omega) (by omega))) (lE omi (l_nil (f_mask [false] rfl ?_)))
   exact f_cut ⟨(k + 1,M),⟨⟨rfl,rfl,rfl,rfl,rfl⟩,rfl,⟨by omega,by rw [others_skip hx3 (fun q => hg10 q.2)]; exact hJ⟩⟩,(show bs.length - (k + 1) < bs.length - k from by omega)⟩
  iterate 5 refine skE ?_
  refine lE okfb (lE omb (skE (skE (skE (skE (lE okfb (lnf (c_no rfl (c_skip (f_block (f_then (c_region ?_))))))))))))
  refine lv (v := Nx (k + 1)) (e_add rfl rfl (i64n (by omega) (by omega))) (lE omi (l_nil (f_mask [false] rfl ?_)))
  exact f_cut ⟨(k + 1,M),⟨⟨rfl,rfl,rfl,rfl,rfl⟩,rfl,⟨by omega,by rw [others_skip hx3 (fun q => hg9 q.1)]; exact hJ⟩⟩,(show bs.length - (k + 1) < bs.length - k from by omega)⟩
 refine c_exit (f_then_exit (f_then_exit (f_exit (end0 Tryz.results149 ?_))))
 intro w hw
 exact ⟨⟨_,rfl⟩,.inl ⟨_,M,rfl,(by rw [List.take_of_length_le (by omega)] at hJ; exact hJ),st_mask [] rfl hw⟩⟩
theorem ends11_fn (β : Base) (c : Nat) (i : Int) (hc : Cs β.heap ⟨c, 0, none⟩ [Ix i]) : FnV Tryz.prog β (.func (.func 145) #[] #[pp c 0]) (fun z : KB => [.agg (bC z)]) (fun _ => True) (fun z => .bool (decide (z.id = i))) := by
 refine ⟨145,[],[.pointer (some (⟨c,0,none⟩))],rfl,by kernel_rfl,fun β₁ sb0 z_ hz_ w hw => ?_⟩
 have hc1 := Cs.mono _ _ _ _ sb0 hc
 obtain ⟨b,hb⟩ : ∃ b,b = z_ := ⟨_,rfl⟩
 subst hb
 refine enter (n := 8) Tryz.func145 rfl Tryz.ntmps145 rfl ?_ hw
 refine csr (bxa fun b1 => ?_)
 refine lE oab (lnc (lE ofp (lE (oli 0) (lv (v := Ix (i)) (e_load1 tf2.ok rfl (kB hc1)) (lE oeq_ (lE oab (lnf (c_ret (ret1 Tryz.results145 rfl ?_)))))))))
 intro w hw
 exact ⟨rfl,st_mask [false] rfl hw⟩
theorem indexBk_ok (β : Base) (w : World) (hw : St β [] w) (v fn : Value) (xs : List KB) (hs : Sl KBR β.heap v xs) (p : KB → Bool) (hfn : FnV Tryz.prog β fn (fun z : KB => [.agg (bC z)]) (· ∈ xs) (fun z => .bool (p z))) (k : Nat) (hk : idxI p xs = k) : Ret Tryz.prog 67 #[v, fn] β w (Nx k) := by
 refine (indexB_ok β w hw v fn xs hs p hfn).mono ?_
 rintro r w' ⟨rfl,hw'⟩
 exact ⟨by rw [hk],hw'⟩
theorem ends1_seq (β : Base) (hG : GR β) (c : Nat) (v rv : Value) (gx gy : Int) (b : KB) (y : Bool) (s : Int) (bs : List KB) (rs : List KR) (hs : Sl KBR β.heap v bs) (hr : Sl KRR β.heap rv rs) (hbs : ∀ o ∈ bs, okB o) (hrs : ∀ r ∈ rs, okR bs r) (hb : okB b) (hn : bs.length ≤ 1048576) (hc : Cs β.heap ⟨c, 0, none⟩ (mC v rv gx gy b y s).toList) : SeqOf Tryz.prog β (.func (.func 144) #[] #[pp c 0]) (fun z : KB × Int => [.agg (bC z.1), Ix z.2]) (· = ends bs rs b) := by
 refine ⟨144,[],[pp c 0],rfl,by kernel_rfl,fun β₁ ext l J X hY M w hJ hw => ?_⟩
 have hcM := Cs.mono _ _ _ _ ext.sub hc
 have hs := Sl.mono _ _ _ _ _ ext.sub hs
 have hr := Sl.mono _ _ _ _ _ ext.sub hr
 have hG := GR.mono ext.sub hG
 obtain ⟨va,vc,rfl,vl,vm,ve⟩ := hs.get
 obtain ⟨rva,rvc,rfl,rvl,rvm,rve⟩ := hr.get
 refine enter (n := 61) Tryz.func144 rfl Tryz.ntmps144 rfl ?_ hw
 refine csr (lE ofa (lE ofa ?_))
 refine lv (v := sB rva rs (rvc)) (e_load1 tf56.ok rfl (Knows.imp (Knows.imp (kB hcM) (fun _ h => Cs.sub (vs := [sB va bs (vc),sB rva rs (rvc),Ix (gx),Ix (gy)]) 0 h rfl)) (fun _ h => Cs.sub (vs := [sB rva rs (rvc)]) 1 h rfl))) ?_
 refine lE oln (lE omi (lnf (c_block ?_)))
 refine c_loop (fun (x_ : Nat × List Res) f L => match x_ with | (k,M) => (f 0 = yfn l ∧ f 1 = .pointer (some (⟨c,0,none⟩)) ∧ f 9 = sB rva rs (rvc) ∧ f 10 = Nx (rs.length) ∧ f 11 = Nx (k)) ∧ L = (M) ∧ (k ≤ rs.length ∧ J (ends bs (rs.take k) b) M)) (fun (k,M) => rs.length - k) (0,M) ?_ ?_
 ·exact ⟨⟨rfl,rfl,rfl,rfl,rfl⟩,rfl,⟨by omega,by simpa [ends] using hJ⟩⟩
 rintro ⟨k,M⟩ f0 L0 ⟨⟨hs0,hs1,hs9,hs10,hs11⟩,hL,⟨hk,hJ⟩⟩
 subst L0
 refine rbs 0 hs0 (rbs 1 hs1 (rbs 9 hs9 (rbs 10 hs10 (rbs 11 hs11 (csr (lE olt (lnf (c_seq (c_if _ rfl (fun hc1 => ?_) (fun hc1 => ?_))))))))))
 ·refine csk (c_seq (c_block (csr ?_)))
  obtain ⟨x2,hx3⟩ := getx rs k (by omega)
  obtain ⟨ha4,cs5,hc6,rfl⟩ := rve _ _ hx3
  refine lE (oia tf46 ha4) (lv (v := .agg #[Ix (x2.a),Ix (x2.b),Ix (x2.len)]) (e_load tf47.ok rfl (kB hc6) rfl) (alE fun b8 => ?_))
  refine lu (mS 0 (#[Ix (x2.a),Ix (x2.b),Ix (x2.len)])) (lnf (cs2 (c_region (lE ofp (lE (oli 0) (lE ofa (lE ofa ?_)))))))
  refine lv (v := Ix (b.id)) (e_load1 tf2.ok rfl (Knows.imp (Knows.imp (kB hcM) (fun _ h => Cs.sub (vs := (bodyE b)) 4 h rfl)) (fun _ h => Cs.sub (vs := [Ix (b.id)]) 0 h rfl))) ?_
  refine lE onq (lE omb (l_split (s := 21) rfl (fun hg9 => ?_) (fun hg9 => ?_)))
  ·refine gE ofp (gE (oli 0) (gE ofa (gE ofa ?_)))
   refine g_val (v := Ix (b.id)) rfl rfl rfl rfl rfl (e_load1 tf2.ok rfl (Knows.imp (Knows.imp (kB hcM) (fun _ h => Cs.sub (vs := (bodyE b)) 4 h rfl)) (fun _ h => Cs.sub (vs := [Ix (b.id)]) 0 h rfl))) ?_
   refine gE onq (lE oktb (lnf (c_if _ rfl (fun hc10 => ?_) (fun hc10 => ?_))))
   ·refine c_exit (f_then_exit (f_exit (f_then (c_region (lv (v := Nx (k + 1)) (e_add rfl rfl (i64n (by omega) (by omega))) (lE omi (l_nil ?_)))))))
    refine f_mask [false] rfl ?_
    exact f_cut ⟨(k + 1,M),⟨⟨rfl,rfl,rfl,rfl,rfl⟩,rfl,⟨by omega,by rw [ends_skip hx3 (endOf_skip hg9 hc10)]; exact hJ⟩⟩,(show rs.length - (k + 1) < rs.length - k from by omega)⟩
   refine csk (c_seq ?_)
   have he : x2.a = b.id ∨ x2.b = b.id := .inr (Decidable.not_not.1 hc10)
   have hok := hrs _ (List.mem_of_getElem? hx3)
   have hid := rope_ids hbs hok
   have hbi := hb.1
   obtain ⟨o,ho⟩ := end_found hok he
   obtain ⟨kq,hkq,hx0⟩ := idx_body ho
   have hk1 := (List.getElem?_eq_some_iff.1 hx0).1
   obtain ⟨ha0,cs0,hc0,rfl⟩ := ve _ _ hx0
   have hoo := hbs _ (List.mem_of_getElem? hx0)
   have hen := endOf_some he ho
   have hq := sq_bd (x := x2.len) (B := 2097152) (by omega) (by omega)
   refine c_region (lE ofp (lE (oli 0) (lE ofp (lE (oli 0) (lE opl (lE ofa (lE ofa ?_)))))))
   refine lv (v := Ix (b.id)) (e_load1 tf2.ok rfl (Knows.imp (Knows.imp (kB hcM) (fun _ h => Cs.sub (vs := (bodyE b)) 4 h rfl)) (fun _ h => Cs.sub (vs := [Ix (b.id)]) 0 h rfl))) ?_
   refine lE omn (alE fun b11 => lu (mS 0 (#[Ix (((x2.a) + (x2.b)) - (b.id))])) (lnf (c_seq ?_)))
   refine cny [sv 38 (.pointer (some ((⟨c,0,none⟩ : Addr).add 0))) [] [] [0],sv 39 (.pointer (some (((⟨c,0,none⟩ : Addr).add 0 : Addr).add 0))) [0] [0] [],sv 40 (sB va bs (vc)) [0,1] [1] [],sv 41 (.pointer (some ((⟨c,0,none⟩ : Addr).add 0))) [] [] [0],sv 42 (.pointer (some (((⟨c,0,none⟩ : Addr).add 0 : Addr).add 0))) [3] [3] [],sv 43 (sB va bs (vc)) [3,4] [4] [],sv 44 (.func (.func 145) #[] #[pp b11 0]) [] [] [1],sv 45 (Nx (kq)) [3,4,5,6] [5,6] [],sv 46 (.pointer (some ((ba va).add (kq * 9)))) (List.range 8) [2,7] [],sv 47 (.agg (bC o)) (List.range 9) [8] [],⟨[],[],[],[6],fun f => f 6 = .pointer (some ⟨(blk (f 6)),0,none⟩)⟩,⟨(List.range 11),[10,9],[],[],fun _ => True⟩] [tk (pt b11 (.cells #[Ix (((x2.a) + (x2.b)) - (b.id))] 3)) [7],tk (pt b8 (.cells #[Ix (x2.a),Ix (x2.b),Ix (x2.len)] 78)) [],⟨(some 10),(some 11),[11],[6],fun f => pt (blk (f 6)) (.cells #[.int .i64 (0),.int .i64 (0),.int .i64 (0),.int .i64 (0),.int .i64 (0),.int .i64 (0),.int .i64 (0),.bool false,.bool false] 52)⟩,⟨(some 11),none,[],[6],fun f => pt (blk (f 6)) (.cells (bC o) 52)⟩] [(1,.pointer (some (⟨c,0,none⟩))),(5,pp b11 0),(0,yfn l),(4,pp b8 0),(9,sB rva rs (rvc)),(10,Nx (rs.length)),(11,Nx (k))] [2,0,3,4,5,6] M ⟨rfl,rfl,rfl,rfl,rfl,rfl,rfl,trivial⟩ ⟨?_,?_,?_,?_,?_,?_,?_,?_,?_,?_,?_,?_,trivial⟩ ?_
   ·rintro f M - ⟨i0,-⟩
    exact obE ofa
   ·rintro f M ⟨k0,-⟩ -
    exact obE ofa
   ·rintro f M ⟨k0,-⟩ -
    exact ob0 (up_cons (d := 39) rfl k0) rfl (e_load1 tf50.ok rfl (Knows.imp (Knows.imp (kB hcM) (fun _ h => Cs.sub (vs := [sB va bs (vc),sB rva rs (rvc),Ix (gx),Ix (gy)]) 0 h rfl)) (fun _ h => Cs.sub (vs := [sB va bs (vc)]) 0 h rfl))) (.refl _)
   ·rintro f M - ⟨i0,-⟩
    exact obE ofa
   ·rintro f M ⟨k0,-⟩ -
    exact obE ofa
   ·rintro f M ⟨k0,-⟩ -
    exact ob0 (up_cons (d := 42) rfl k0) rfl (e_load1 tf50.ok rfl (Knows.imp (Knows.imp (kB hcM) (fun _ h => Cs.sub (vs := [sB va bs (vc),sB rva rs (rvc),Ix (gx),Ix (gy)]) 0 h rfl)) (fun _ h => Cs.sub (vs := [sB va bs (vc)]) 0 h rfl))) (.refl _)
   ·rintro f M - ⟨i0,-⟩
    exact ob0 (up_cons (d := 5) rfl i0) rfl (e_func (u := []) (v := [pp b11 0]) rfl rfl) (.refl _)
   ·rintro f M ⟨k0,k1,-⟩ -
    refine ob_start (L' := pt b11 (.cells #[Ix (((x2.a) + (x2.b)) - (b.id))] 3) :: M) (by rfl) (up_cons (d := 44) (up_cons (d := 43) rfl k0) k1) ?_
    refine lcR clA (fun w β1 sb kn hw1 => indexBk_ok β1 w hw1 _ _ bs (Sl.mono _ _ _ _ _ sb (⟨⟨_,_,rfl,vl,vm,ve⟩⟩ : Sl KBR _ _ bs)) (fun z => decide (z.id = ((x2.a) + (x2.b)) - (b.id))) (fnv_all (ends11_fn β1 b11 (((x2.a) + (x2.b)) - (b.id)) (kn _ (k_pt 0 (o := 0) rfl rfl)))) kq hkq) ?_
    refine l_nil ?_
    exact f_owes_d (up_cons (d := 44) (up_cons (d := 43) rfl k0) k1) rfl (perm_front 0 rfl)
   ·rintro f M ⟨k0,k1,-⟩ -
    exact ob0 (up_cons (d := 45) (up_cons (d := 40) rfl k0) k1) rfl (e_indexAddr rfl rfl tf43 (by omega) ha0) (.refl _)
   ·rintro f M ⟨k0,-⟩ -
    exact ob0 (up_cons (d := 46) rfl k0) rfl (e_load tf22.ok rfl (kB hc0) rfl) (.refl _)
   ·rintro f M - -
    refine ob_start (L' := M) (by rfl) rfl (alE fun b13 => l_nil ?_)
    exact f_owes_d rfl rfl (perm_front 0 rfl)
   ·rintro f M ⟨k0,k1,-⟩ -
    have hs6 : f 6 = .pointer (some ⟨(blk (f 6)),0,none⟩) := k0
    refine ob_start (L' := pt (blk (f 6)) (.cells #[.int .i64 (0),.int .i64 (0),.int .i64 (0),.int .i64 (0),.int .i64 (0),.int .i64 (0),.int .i64 (0),.bool false,.bool false] 52) :: M) (by rfl) (up_cons (d := 47) (up_cons rfl hs6) k1) ?_
    refine lu (mS 0 (bC o)) (l_nil ?_)
    exact f_owes_n (up_cons (d := 47) (up_cons rfl hs6) k1) trivial (perm_front 0 rfl)
   rintro fa14 ⟨-,-,-,-,-,-,-,-,-,-,k10,-,-⟩ ⟨j0,j1,j2,j3,j4,j5,-⟩
   refine f_re (L' := (pt b11 (.cells #[Ix (((x2.a) + (x2.b)) - (b.id))] 3) :: pt b8 (.cells #[Ix (x2.a),Ix (x2.b),Ix (x2.len)] 78) :: pt (blk (fa14 6)) (.cells (bC o) 52) :: M)) (by rfl) ?_
   refine f_rebase (d := 0) j0 (f_rebase (d := 1) j1 (f_rebase (d := 4) j2 (f_rebase (d := 6) k10 (f_rebase (d := 9) j3 (f_rebase (d := 10) j4 ?_)))))
   refine f_rebase (d := 11) j5 (fts ?_)
   refine c_any_tail 10 rfl (by kernel_rfl) [⟨[],[],[0],[48],fun f => f 48 = yfn l⟩,⟨[],[],[1],[49],fun f => f 49 = .agg (bC o)⟩,⟨[],[],[2],[50],fun f => f 50 = pp b8 2⟩,⟨[2],[2],[],[51],fun f => f 51 = Ix (x2.len)⟩,⟨[2,3],[3],[],[52],fun f => f 52 = Ix ((x2.len) * (x2.len))⟩,⟨[],[],[3],[53],fun f => f 53 = .pointer (some ((⟨c,0,none⟩ : Addr).add 4))⟩,⟨[5],[5],[],[54],fun f => f 54 = .agg (bC b)⟩,⟨[],[],[1],[55],fun f => f 55 = .agg (bC o)⟩,⟨[2,3,4,5,6,7],[6,7],[],[56],fun f => f 56 = Ix (Stp.dist b o)⟩,⟨[2,3,4,5,6,7,8],[4,8],[],[57],fun f => f 57 = Ix (max ((x2.len) * (x2.len)) (Stp.dist b o))⟩,⟨(List.range 10),[],[],[],fun _ => True⟩,⟨(List.range 11),[],[],[],fun _ => True⟩] [⟨none,none,[],[],fun _ => pt b11 (.cells #[Ix (((x2.a) + (x2.b)) - (b.id))] 3)⟩,⟨none,none,[3],[],fun _ => pt b8 (.cells #[Ix (x2.a),Ix (x2.b),Ix (x2.len)] 78)⟩,⟨none,none,[1,7],[],fun _ => pt (blk (fa14 6)) (.cells (bC o) 52)⟩] [(0,yfn l),(6,.pointer (some ⟨(blk (fa14 6)),0,none⟩)),(4,pp b8 0),(1,.pointer (some (⟨c,0,none⟩))),(9,sB rva rs (rvc)),(10,Nx (rs.length)),(11,Nx (k))] [0,3,4,5,6] M (by kernel_rfl) (by kernel_rfl) (by kernel_rfl) (by kernel_rfl) (by kernel_rfl) (by kernel_rfl) rfl ⟨rfl,rfl,rfl,rfl,rfl,rfl,rfl,trivial⟩ ⟨?_,?_,?_,?_,?_,?_,?_,?_,?_,?_,trivial⟩ ?_
   ·rintro f M - ⟨i0,-⟩
    exact ob0 (up_cons (d := 0) rfl i0) rfl e_move (.refl _)
   ·rintro f M - ⟨i0,-⟩
    exact obE (olg 0)
   ·rintro f M - ⟨i0,-⟩
    exact obE ofp
   ·rintro f M ⟨k0,-⟩ -
    exact obE (oli 0)
   ·rintro f M ⟨k0,-⟩ -
    refine ob_start (L' := M) (by rfl) (up_cons (d := 51) rfl k0) (lcR clA (fun w β1 sb kn hw1 => sq_ok β1 w hw1 (x2.len) (by omega)) (l_nil ?_))
    exact f_owes_d (up_cons (d := 51) rfl k0) rfl (List.Perm.refl _)
   ·rintro f M - ⟨i0,-⟩
    exact obE ofa
   ·rintro f M ⟨k0,-⟩ -
    exact ob0 (up_cons (d := 53) rfl k0) rfl (e_load tf22.ok rfl (Knows.imp (kB hcM) (fun _ h => Cs.sub (vs := (bodyE b)) 4 h rfl)) rfl) (.refl _)
   ·rintro f M - ⟨i0,-⟩
    exact obE (olg 0)
   ·rintro f M ⟨k0,k1,-⟩ -
    refine ob_start (L' := M) (by rfl) (up_cons (d := 55) (up_cons (d := 54) rfl k0) k1) ?_
    refine lcR clA (fun w β1 sb kn hw1 => dist_ok β1 w hw1 b o hb.mid hoo.mid) (l_nil ?_)
    exact f_owes_d (up_cons (d := 55) (up_cons (d := 54) rfl k0) k1) rfl (List.Perm.refl _)
   ·rintro f M ⟨k0,k1,-⟩ -
    exact obE omx
   rintro fa15 ⟨k0,k1,-,-,-,-,-,-,-,k9,-⟩ ⟨j0,j1,j2,j3,j4,-⟩
   refine l_re (L' := (pt b11 (.cells #[Ix (((x2.a) + (x2.b)) - (b.id))] 3) :: pt b8 (.cells #[Ix (x2.a),Ix (x2.b),Ix (x2.len)] 78) :: pt (blk (fa14 6)) (.cells (bC o) 52) :: M)) (by rfl) ?_
   refine l_rebase (d := 0) (v := yfn l) j0 (l_rebase (d := 1) (v := .pointer (some (⟨c,0,none⟩))) j1 (l_rebase (d := 9) (v := sB rva rs (rvc)) j2 ?_))
   refine l_rebase (d := 10) (v := Nx (rs.length)) j3 (l_rebase (d := 11) (v := Nx (k)) j4 (l_rebase (d := 48) (v := yfn l) k0 ?_))
   refine l_rebase (d := 49) (v := .agg (bC o)) k1 (l_rebase (d := 57) (v := Ix (max ((x2.len) * (x2.len)) (Stp.dist b o))) k9 ?_)
   refine l_yield (own := [pt b11 (.cells #[Ix (((x2.a) + (x2.b)) - (b.id))] 3),pt b8 (.cells #[Ix (x2.a),Ix (x2.b),Ix (x2.len)] 78),pt (blk (fa14 6)) (.cells (bC o) 52)]) (M := M) (d := 58) (enc := fun z : KB × Int => [.agg (bC z.1),Ix z.2]) (pre := ends bs (rs.take k) b) (x := (o,max (x2.len * x2.len) (Stp.dist b o))) rfl rfl rfl rfl hY (⟨_,rfl,ends_pre hx3 hen⟩) hJ (fun M1 hJ1 => ?_) (fun M1 hX1 => ?_)
   ·refine lE ont (lnf (c_no rfl (c_skip (f_block (f_then (c_region (lv (v := Nx (k + 1)) (e_add rfl rfl (i64n (by omega) (by omega))) (lE omi (l_nil ?_)))))))))
    refine f_mask [false,false,false] rfl ?_
    exact f_cut ⟨(k + 1,M1),⟨⟨rfl,rfl,rfl,rfl,rfl⟩,rfl,⟨by omega,by rw [ends_snoc hx3 hen]; exact hJ1⟩⟩,(show rs.length - (k + 1) < rs.length - k from by omega)⟩
   refine lE ont (lnf (c_yes rfl (c_ret (f_block_ret (f_then_ret (f_then_ret (f_block_ret (ret0 Tryz.results144 ?_))))))))
   intro w hw
   exact ⟨⟨_,rfl⟩,.inr ⟨_,M1,hX1,st_mask [false,false,false] rfl hw⟩⟩
  iterate 6 refine skE ?_
  refine lE okfb (lnf (c_no rfl (csk (c_seq ?_))))
  have he : x2.a = b.id ∨ x2.b = b.id := .inl (Decidable.not_not.1 hg9)
  have hok := hrs _ (List.mem_of_getElem? hx3)
  have hid := rope_ids hbs hok
  have hbi := hb.1
  obtain ⟨o,ho⟩ := end_found hok he
  obtain ⟨kq,hkq,hx0⟩ := idx_body ho
  have hk1 := (List.getElem?_eq_some_iff.1 hx0).1
  obtain ⟨ha0,cs0,hc0,rfl⟩ := ve _ _ hx0
  have hoo := hbs _ (List.mem_of_getElem? hx0)
  have hen := endOf_some he ho
  have hq := sq_bd (x := x2.len) (B := 2097152) (by omega) (by omega)
  refine c_region (lE ofp (lE (oli 0) (lE ofp (lE (oli 0) (lE opl (lE ofa (lE ofa ?_)))))))
  refine lv (v := Ix (b.id)) (e_load1 tf2.ok rfl (Knows.imp (Knows.imp (kB hcM) (fun _ h => Cs.sub (vs := (bodyE b)) 4 h rfl)) (fun _ h => Cs.sub (vs := [Ix (b.id)]) 0 h rfl))) ?_
  refine lE omn (alE fun b16 => lu (mS 0 (#[Ix (((x2.a) + (x2.b)) - (b.id))])) (lnf (c_seq ?_)))
  refine cny [sv 38 (.pointer (some ((⟨c,0,none⟩ : Addr).add 0))) [] [] [0],sv 39 (.pointer (some (((⟨c,0,none⟩ : Addr).add 0 : Addr).add 0))) [0] [0] [],sv 40 (sB va bs (vc)) [0,1] [1] [],sv 41 (.pointer (some ((⟨c,0,none⟩ : Addr).add 0))) [] [] [0],sv 42 (.pointer (some (((⟨c,0,none⟩ : Addr).add 0 : Addr).add 0))) [3] [3] [],sv 43 (sB va bs (vc)) [3,4] [4] [],sv 44 (.func (.func 145) #[] #[pp b16 0]) [] [] [1],sv 45 (Nx (kq)) [3,4,5,6] [5,6] [],sv 46 (.pointer (some ((ba va).add (kq * 9)))) (List.range 8) [2,7] [],sv 47 (.agg (bC o)) (List.range 9) [8] [],⟨[],[],[],[6],fun f => f 6 = .pointer (some ⟨(blk (f 6)),0,none⟩)⟩,⟨(List.range 11),[10,9],[],[],fun _ => True⟩] [tk (pt b16 (.cells #[Ix (((x2.a) + (x2.b)) - (b.id))] 3)) [7],tk (pt b8 (.cells #[Ix (x2.a),Ix (x2.b),Ix (x2.len)] 78)) [],⟨(some 10),(some 11),[11],[6],fun f => pt (blk (f 6)) (.cells #[.int .i64 (0),.int .i64 (0),.int .i64 (0),.int .i64 (0),.int .i64 (0),.int .i64 (0),.int .i64 (0),.bool false,.bool false] 52)⟩,⟨(some 11),none,[],[6],fun f => pt (blk (f 6)) (.cells (bC o) 52)⟩] [(1,.pointer (some (⟨c,0,none⟩))),(5,pp b16 0),(0,yfn l),(4,pp b8 0),(9,sB rva rs (rvc)),(10,Nx (rs.length)),(11,Nx (k))] [2,0,3,4,5,6] M ⟨rfl,rfl,rfl,rfl,rfl,rfl,rfl,trivial⟩ ⟨?_,?_,?_,?_,?_,?_,?_,?_,?_,?_,?_,?_,trivial⟩ ?_
  ·rintro f M - ⟨i0,-⟩
   exact obE ofa
  ·rintro f M ⟨k0,-⟩ -
   exact obE ofa
  ·rintro f M ⟨k0,-⟩ -
   exact ob0 (up_cons (d := 39) rfl k0) rfl (e_load1 tf50.ok rfl (Knows.imp (Knows.imp (kB hcM) (fun _ h => Cs.sub (vs := [sB va bs (vc),sB rva rs (rvc),Ix (gx),Ix (gy)]) 0 h rfl)) (fun _ h => Cs.sub (vs := [sB va bs (vc)]) 0 h rfl))) (.refl _)
  ·rintro f M - ⟨i0,-⟩
   exact obE ofa
  ·rintro f M ⟨k0,-⟩ -
   exact obE ofa
  ·rintro f M ⟨k0,-⟩ -
   exact ob0 (up_cons (d := 42) rfl k0) rfl (e_load1 tf50.ok rfl (Knows.imp (Knows.imp (kB hcM) (fun _ h => Cs.sub (vs := [sB va bs (vc),sB rva rs (rvc),Ix (gx),Ix (gy)]) 0 h rfl)) (fun _ h => Cs.sub (vs := [sB va bs (vc)]) 0 h rfl))) (.refl _)
  ·rintro f M - ⟨i0,-⟩
   exact ob0 (up_cons (d := 5) rfl i0) rfl (e_func (u := []) (v := [pp b16 0]) rfl rfl) (.refl _)
  ·rintro f M ⟨k0,k1,-⟩ -
   refine ob_start (L' := pt b16 (.cells #[Ix (((x2.a) + (x2.b)) - (b.id))] 3) :: M) (by rfl) (up_cons (d := 44) (up_cons (d := 43) rfl k0) k1) ?_
   refine lcR clA (fun w β1 sb kn hw1 => indexBk_ok β1 w hw1 _ _ bs (Sl.mono _ _ _ _ _ sb (⟨⟨_,_,rfl,vl,vm,ve⟩⟩ : Sl KBR _ _ bs)) (fun z => decide (z.id = ((x2.a) + (x2.b)) - (b.id))) (fnv_all (ends11_fn β1 b16 (((x2.a) + (x2.b)) - (b.id)) (kn _ (k_pt 0 (o := 0) rfl rfl)))) kq hkq) ?_
   refine l_nil ?_
   exact f_owes_d (up_cons (d := 44) (up_cons (d := 43) rfl k0) k1) rfl (perm_front 0 rfl)
  ·rintro f M ⟨k0,k1,-⟩ -
   exact ob0 (up_cons (d := 45) (up_cons (d := 40) rfl k0) k1) rfl (e_indexAddr rfl rfl tf43 (by omega) ha0) (.refl _)
  ·rintro f M ⟨k0,-⟩ -
   exact ob0 (up_cons (d := 46) rfl k0) rfl (e_load tf22.ok rfl (kB hc0) rfl) (.refl _)
  ·rintro f M - -
   refine ob_start (L' := M) (by rfl) rfl (alE fun b18 => l_nil ?_)
   exact f_owes_d rfl rfl (perm_front 0 rfl)
  ·rintro f M ⟨k0,k1,-⟩ -
   have hs6 : f 6 = .pointer (some ⟨(blk (f 6)),0,none⟩) := k0
   refine ob_start (L' := pt (blk (f 6)) (.cells #[.int .i64 (0),.int .i64 (0),.int .i64 (0),.int .i64 (0),.int .i64 (0),.int .i64 (0),.int .i64 (0),.bool false,.bool false] 52) :: M) (by rfl) (up_cons (d := 47) (up_cons rfl hs6) k1) ?_
   refine lu (mS 0 (bC o)) (l_nil ?_)
   exact f_owes_n (up_cons (d := 47) (up_cons rfl hs6) k1) trivial (perm_front 0 rfl)
  rintro fa19 ⟨-,-,-,-,-,-,-,-,-,-,k10,-,-⟩ ⟨j0,j1,j2,j3,j4,j5,-⟩
  refine f_re (L' := (pt b16 (.cells #[Ix (((x2.a) + (x2.b)) - (b.id))] 3) :: pt b8 (.cells #[Ix (x2.a),Ix (x2.b),Ix (x2.len)] 78) :: pt (blk (fa19 6)) (.cells (bC o) 52) :: M)) (by rfl) ?_
  refine f_rebase (d := 0) j0 (f_rebase (d := 1) j1 (f_rebase (d := 4) j2 (f_rebase (d := 6) k10 (f_rebase (d := 9) j3 (f_rebase (d := 10) j4 ?_)))))
  refine f_rebase (d := 11) j5 (fts ?_)
  refine c_any_tail 10 rfl (by kernel_rfl) [⟨[],[],[0],[48],fun f => f 48 = yfn l⟩,⟨[],[],[1],[49],fun f => f 49 = .agg (bC o)⟩,⟨[],[],[2],[50],fun f => f 50 = pp b8 2⟩,⟨[2],[2],[],[51],fun f => f 51 = Ix (x2.len)⟩,⟨[2,3],[3],[],[52],fun f => f 52 = Ix ((x2.len) * (x2.len))⟩,⟨[],[],[3],[53],fun f => f 53 = .pointer (some ((⟨c,0,none⟩ : Addr).add 4))⟩,⟨[5],[5],[],[54],fun f => f 54 = .agg (bC b)⟩,⟨[],[],[1],[55],fun f => f 55 = .agg (bC o)⟩,⟨[2,3,4,5,6,7],[6,7],[],[56],fun f => f 56 = Ix (Stp.dist b o)⟩,⟨[2,3,4,5,6,7,8],[4,8],[],[57],fun f => f 57 = Ix (max ((x2.len) * (x2.len)) (Stp.dist b o))⟩,⟨(List.range 10),[],[],[],fun _ => True⟩,⟨(List.range 11),[],[],[],fun _ => True⟩] [⟨none,none,[],[],fun _ => pt b16 (.cells #[Ix (((x2.a) + (x2.b)) - (b.id))] 3)⟩,⟨none,none,[3],[],fun _ => pt b8 (.cells #[Ix (x2.a),Ix (x2.b),Ix (x2.len)] 78)⟩,⟨none,none,[1,7],[],fun _ => pt (blk (fa19 6)) (.cells (bC o) 52)⟩] [(0,yfn l),(6,.pointer (some ⟨(blk (fa19 6)),0,none⟩)),(4,pp b8 0),(1,.pointer (some (⟨c,0,none⟩))),(9,sB rva rs (rvc)),(10,Nx (rs.length)),(11,Nx (k))] [0,3,4,5,6] M (by kernel_rfl) (by kernel_rfl) (by kernel_rfl) (by kernel_rfl) (by kernel_rfl) (by kernel_rfl) rfl ⟨rfl,rfl,rfl,rfl,rfl,rfl,rfl,trivial⟩ ⟨?_,?_,?_,?_,?_,?_,?_,?_,?_,?_,trivial⟩ ?_
  ·rintro f M - ⟨i0,-⟩
   exact ob0 (up_cons (d := 0) rfl i0) rfl e_move (.refl _)
  ·rintro f M - ⟨i0,-⟩
   exact obE (olg 0)
  ·rintro f M - ⟨i0,-⟩
   exact obE ofp
  ·rintro f M ⟨k0,-⟩ -
   exact obE (oli 0)
  ·rintro f M ⟨k0,-⟩ -
   refine ob_start (L' := M) (by rfl) (up_cons (d := 51) rfl k0) (lcR clA (fun w β1 sb kn hw1 => sq_ok β1 w hw1 (x2.len) (by omega)) (l_nil ?_))
   exact f_owes_d (up_cons (d := 51) rfl k0) rfl (List.Perm.refl _)
  ·rintro f M - ⟨i0,-⟩
   exact obE ofa
  ·rintro f M ⟨k0,-⟩ -
   exact ob0 (up_cons (d := 53) rfl k0) rfl (e_load tf22.ok rfl (Knows.imp (kB hcM) (fun _ h => Cs.sub (vs := (bodyE b)) 4 h rfl)) rfl) (.refl _)
  ·rintro f M - ⟨i0,-⟩
   exact obE (olg 0)
  ·rintro f M ⟨k0,k1,-⟩ -
   refine ob_start (L' := M) (by rfl) (up_cons (d := 55) (up_cons (d := 54) rfl k0) k1) ?_
   refine lcR clA (fun w β1 sb kn hw1 => dist_ok β1 w hw1 b o hb.mid hoo.mid) (l_nil ?_)
   exact f_owes_d (up_cons (d := 55) (up_cons (d := 54) rfl k0) k1) rfl (List.Perm.refl _)
  ·rintro f M ⟨k0,k1,-⟩ -
   exact obE omx
  rintro fa20 ⟨k0,k1,-,-,-,-,-,-,-,k9,-⟩ ⟨j0,j1,j2,j3,j4,-⟩
  refine l_re (L' := (pt b16 (.cells #[Ix (((x2.a) + (x2.b)) - (b.id))] 3) :: pt b8 (.cells #[Ix (x2.a),Ix (x2.b),Ix (x2.len)] 78) :: pt (blk (fa19 6)) (.cells (bC o) 52) :: M)) (by rfl) ?_
  refine l_rebase (d := 0) (v := yfn l) j0 (l_rebase (d := 1) (v := .pointer (some (⟨c,0,none⟩))) j1 (l_rebase (d := 9) (v := sB rva rs (rvc)) j2 ?_))
  refine l_rebase (d := 10) (v := Nx (rs.length)) j3 (l_rebase (d := 11) (v := Nx (k)) j4 (l_rebase (d := 48) (v := yfn l) k0 ?_))
  refine l_rebase (d := 49) (v := .agg (bC o)) k1 (l_rebase (d := 57) (v := Ix (max ((x2.len) * (x2.len)) (Stp.dist b o))) k9 ?_)
  refine l_yield (own := [pt b16 (.cells #[Ix (((x2.a) + (x2.b)) - (b.id))] 3),pt b8 (.cells #[Ix (x2.a),Ix (x2.b),Ix (x2.len)] 78),pt (blk (fa19 6)) (.cells (bC o) 52)]) (M := M) (d := 58) (enc := fun z : KB × Int => [.agg (bC z.1),Ix z.2]) (pre := ends bs (rs.take k) b) (x := (o,max (x2.len * x2.len) (Stp.dist b o))) rfl rfl rfl rfl hY (⟨_,rfl,ends_pre hx3 hen⟩) hJ (fun M1 hJ1 => ?_) (fun M1 hX1 => ?_)
  ·refine lE ont (lnf (c_no rfl (c_skip (f_block (f_then (c_region (lv (v := Nx (k + 1)) (e_add rfl rfl (i64n (by omega) (by omega))) (lE omi (l_nil ?_)))))))))
   refine f_mask [false,false,false] rfl ?_
   exact f_cut ⟨(k + 1,M1),⟨⟨rfl,rfl,rfl,rfl,rfl⟩,rfl,⟨by omega,by rw [ends_snoc hx3 hen]; exact hJ1⟩⟩,(show rs.length - (k + 1) < rs.length - k from by omega)⟩
  refine lE ont (lnf (c_yes rfl (c_ret (f_block_ret (f_then_ret (f_then_ret (f_block_ret (ret0 Tryz.results144 ?_))))))))
  intro w hw
  exact ⟨⟨_,rfl⟩,.inr ⟨_,M1,hX1,st_mask [false,false,false] rfl hw⟩⟩
 refine c_exit (f_then_exit (f_then_exit (f_exit (end0 Tryz.results144 ?_))))
 intro w hw
 exact ⟨⟨_,rfl⟩,.inl ⟨_,M,rfl,(by rw [List.take_of_length_le (by omega)] at hJ; exact hJ),st_mask [] rfl hw⟩⟩
end Go.Proofs
