/-
 Marks,worlds that are written over,small worlds. Printed by a program of my own.
-/
import Derived.Test.YtdkibofhppgbjaaGreatDoorWd2
import Derived.Test.YtdkibofhppgbjaaGreatDoorWdLentO
import Derived.Test.YtdkibofhppgbjaaGreatDoorWdRef
import Derived.Test.YtdkibofhppgbjaaGreatDoorSlB
namespace Go.Stp
open Go.Sl Go.Proofs
def mkC (k i : Nat) : KComp := ⟨0, markN (k : Nat) (i : Nat), 0, 0, 0⟩
def mkHd (k i : Nat) : KHd := ⟨markN (k : Nat) (i : Nat), none, 0, 0⟩
/-- the header of a world -/
structure KWd where
 tick : Int
 p : Option Addr
 n : Nat
 c : Nat
abbrev WdF : Fl KWd := ⟨2, fun e => [Ix e.tick, .slice e.p e.n e.c], fun _ => rfl, fun _ => rfl, by decide⟩
def mkWd (k i : Nat) : KWd := ⟨markN (k : Nat) (i : Nat), none, 0, 0⟩
theorem ol_at {pre po : List OL} {oe : KEnt} {op : Option Addr} {oc : Nat} {ms : List KHd} : ((pre ++ (⟨oe, op, oc⟩ : OL) :: po).map OL.hd ++ ms)[pre.length]? = some (⟨oe.id, op, oe.comps.length, oc⟩ : KHd) := by
 rw [List.getElem?_append_left (by simp),List.getElem?_map,List.getElem?_append_right (Nat.le_refl _),Nat.sub_self]; rfl
theorem mem_next {α : Type} {l : List α} {k : Nat} {x e : α} (hx : l[k]? = some x) (he : e ∈ l.take (k + 1)) : e ∈ l.take k ∨ e = x := by
 rw [List.take_add_one,hx] at he
 rcases List.mem_append.1 he with h | h
 ·exact .inl h
 exact .inr (by simpa using h)
end Go.Stp
namespace Go.Proofs
open Go Go.Sl Go.Stp
instance tw69 : ZerC Tryz.prog 120 (.agg #[.int .u8 (0), .int .i64 (0), .int .i64 (0), .int .i64 (0), .int .i64 (0)]) := ⟨by kernel_rfl⟩
instance tw70 : CfC Tryz.prog 174 := ⟨by kernel_rfl⟩
theorem tw71 : stB Tryz.prog 120 [(0, 1), (1, 4)] = true := by kernel_rfl
instance tw72 : TyC Tryz.prog 120 true 5 := ⟨by kernel_rfl⟩
instance tw73 : CfC Tryz.prog 184 := ⟨by kernel_rfl⟩
instance tw74 : CfC Tryz.prog 201 := ⟨by kernel_rfl⟩
instance tw75 : CfC Tryz.prog 141 := ⟨by kernel_rfl⟩
instance tw76 : CfC Tryz.prog 108 := ⟨by kernel_rfl⟩
instance tw77 : CfC Tryz.prog 81 := ⟨by kernel_rfl⟩
theorem markCk_ok (β : Base) (w : World) (hw : St β [] w) (k i : Nat) (hk : k ≤ 1000000) (hi : i ≤ 1048576) : Ret Tryz.prog 184 #[Nx k, Nx i] β w (.agg #[Bx ((mkC k i).kind), Ix ((mkC k i).v0), Ix ((mkC k i).v1), Ix ((mkC k i).v2), Ix ((mkC k i).v3)]) := by
 refine enter (n := 10) Tryz.func184 rfl Tryz.ntmps184 rfl ?_ hw
 refine csr (alE fun b1 => lnc (lE omi (lE omi ?_)))
 refine lcR clA (fun w β1 sb kn hw1 => mark_ok β1 w hw1 ((k : Nat) : Int) ((i : Nat) : Int) (by omega) (by omega)) ?_
 refine lv (v := .agg #[Ix (markN ((k : Nat) : Int) ((i : Nat) : Int)),.int .i64 (0),.int .i64 (0),.int .i64 (0)]) (e_build_a tw13.ok tw16.ok (vs := [(0,Ix (markN ((k : Nat) : Int) ((i : Nat) : Int)))]) (cells := #[Ix (markN ((k : Nat) : Int) ((i : Nat) : Int)),.int .i64 (0),.int .i64 (0),.int .i64 (0)]) rfl rfl) ?_
 refine lv (v := .agg #[.int .u8 (0),Ix (markN ((k : Nat) : Int) ((i : Nat) : Int)),.int .i64 (0),.int .i64 (0),.int .i64 (0)]) (e_build tw69.ok tw71 (vs := [(1,.agg #[Ix (markN ((k : Nat) : Int) ((i : Nat) : Int)),.int .i64 (0),.int .i64 (0),.int .i64 (0)])]) (cells := #[.int .u8 (0),Ix (markN ((k : Nat) : Int) ((i : Nat) : Int)),.int .i64 (0),.int .i64 (0),.int .i64 (0)]) rfl rfl) ?_
 refine lu (mS 0 (#[.int .u8 (0),Ix (markN ((k : Nat) : Int) ((i : Nat) : Int)),.int .i64 (0),.int .i64 (0),.int .i64 (0)])) (lnf (c_ret ?_))
 refine retG (m := [.agg #[.int .u8 (0),Ix (markN ((k : Nat) : Int) ((i : Nat) : Int)),.int .i64 (0),.int .i64 (0),.int .i64 (0)]]) Tryz.results184 ⟨rd_cell tw72.ok rfl (k_pt 0 rfl rfl) rfl,trivial⟩ rfl ?_
 intro w hw
 exact ⟨rfl,st_mask [false] rfl hw⟩
theorem markEk_ok (β : Base) (w : World) (hw : St β [] w) (k i : Nat) (hk : k ≤ 1000000) (hi : i ≤ 1048576) : Ret Tryz.prog 108 #[Nx k, Nx i] β w (.agg #[Ix ((mkHd k i).id), .slice ((mkHd k i).p) ((mkHd k i).n) ((mkHd k i).c)]) := by
 refine enter (n := 9) Tryz.func108 rfl Tryz.ntmps108 rfl ?_ hw
 refine csr (alE fun b1 => lnc (lE omi (lE omi ?_)))
 refine lcR clA (fun w β1 sb kn hw1 => mark_ok β1 w hw1 ((k : Nat) : Int) ((i : Nat) : Int) (by omega) (by omega)) ?_
 refine lv (v := .agg #[Ix (markN ((k : Nat) : Int) ((i : Nat) : Int)),.slice none 0 0]) (e_build tw51.ok tw50 (vs := [(0,Ix (markN ((k : Nat) : Int) ((i : Nat) : Int)))]) (cells := #[Ix (markN ((k : Nat) : Int) ((i : Nat) : Int)),.slice none 0 0]) rfl rfl) ?_
 refine lu (mS 0 (#[Ix (markN ((k : Nat) : Int) ((i : Nat) : Int)),.slice none 0 0])) (lnf (c_ret ?_))
 refine retG (m := [.agg #[Ix (markN ((k : Nat) : Int) ((i : Nat) : Int)),.slice none 0 0]]) Tryz.results108 ⟨rd_cell tw7.ok rfl (k_pt 0 rfl rfl) rfl,trivial⟩ rfl ?_
 intro w hw
 exact ⟨rfl,st_mask [false] rfl hw⟩
theorem markWk_ok (β : Base) (w : World) (hw : St β [] w) (k i : Nat) (hk : k ≤ 1000000) (hi : i ≤ 1048576) : Ret Tryz.prog 185 #[Nx k, Nx i] β w (.agg #[Ix ((mkWd k i).tick), .slice ((mkWd k i).p) ((mkWd k i).n) ((mkWd k i).c)]) := by
 refine enter (n := 9) Tryz.func185 rfl Tryz.ntmps185 rfl ?_ hw
 refine csr (alE fun b1 => lnc (lE omi (lE omi ?_)))
 refine lcR clA (fun w β1 sb kn hw1 => mark_ok β1 w hw1 ((k : Nat) : Int) ((i : Nat) : Int) (by omega) (by omega)) ?_
 refine lv (v := .agg #[Ix (markN ((k : Nat) : Int) ((i : Nat) : Int)),.slice none 0 0]) (e_build tw45.ok tw47 (vs := [(0,Ix (markN ((k : Nat) : Int) ((i : Nat) : Int)))]) (cells := #[Ix (markN ((k : Nat) : Int) ((i : Nat) : Int)),.slice none 0 0]) rfl rfl) ?_
 refine lu (mS 0 (#[Ix (markN ((k : Nat) : Int) ((i : Nat) : Int)),.slice none 0 0])) (lnf (c_ret ?_))
 refine retG (m := [.agg #[Ix (markN ((k : Nat) : Int) ((i : Nat) : Int)),.slice none 0 0]]) Tryz.results185 ⟨rd_cell tw48.ok rfl (k_pt 0 rfl rfl) rfl,trivial⟩ rfl ?_
 intro w hw
 exact ⟨rfl,st_mask [false] rfl hw⟩
theorem overC_ok (β : Base) (w : World) (p : Option Addr) (c n : Nat) (ys : List KComp) (hyl : ys.length = n + 12) (hn : n ≤ 1000000) (hw : St β [rowF CompF 120 p c ys] w) : Calls Tryz.prog 201 #[.slice p n c] w fun r w' => ∃ zs, r = .returned (.tuple #[]) ∧ St β [rowF CompF 120 p c zs] w' := by
 refine enter (n := 23) Tryz.func201 rfl Tryz.ntmps201 rfl ?_ hw
 refine c_seq (c_rowcap 0 rfl (fun hcl hcm => ?_))
 have hcm2 : c ≤ 9223372036854775807 := by unfold maxLen at hcm; omega
 refine c_region (lE oms (lE oms (lv (v := Nx (c)) (e_cap (a := p) (n := n) (c := c) rfl tw2.ok) (lE oms (lE oln ?_)))))
 refine lv (v := Nx (n + 12)) (e_add rfl rfl (i64n (by omega) (by omega))) ?_
 refine lv (v := Nx (min c (n + 12))) (ev_eq (congrArg (Value.int .i64) (by omega)) (e_min (a := ((c : Nat) : Int)) (b := ((n + 12 : Nat) : Int)) rfl rfl)) ?_
 refine lv (v := .slice p (min c (n + 12)) c) (e_slice_hi (a := p) (len := n) (cap := c) (h := min c (n + 12)) tw3 rfl rfl (by omega)) (lE oas (lnc ?_))
 refine lE oai (lnf (c_block ?_))
 refine c_loop (fun (x_ : Nat × List KComp) f L => match x_ with | (k,zs) => (f 2 = .slice p (min c (n + 12)) c ∧ f 3 = Nx (k)) ∧ L = [rowF CompF 120 p c zs] ∧ (k ≤ min c (n + 12) ∧ zs.length = n + 12)) (fun (k,zs) => min c (n + 12) - k) (0,ys) ?_ ?_
 ·exact ⟨⟨rfl,rfl⟩,rfl,⟨by omega,hyl⟩⟩
 rintro ⟨k,zs⟩ f0 L0 ⟨⟨hs2,hs3⟩,hL,⟨hk,hzl⟩⟩
 subst L0
 refine rbs 2 hs2 (rbs 3 hs3 (cs2 (c_region (lE omi (lE oms (lE oln (lE olt (lnf (c_if _ rfl (fun hc1 => ?_) (fun hc1 => ?_))))))))))
 ·refine csk (c_seq (c_block (c_region (lE oms (lE omi (lE omi (lcR clA (fun w β1 sb kn hw1 => markCk_ok β1 w hw1 2 k (by omega) (by omega)) ?_)))))))
  refine lv (v := .pointer (some ((ba p).add (k * 5)))) (e_indexFlN 0 (F := CompF) rfl (by omega) rfl tw3 (by omega) rfl) ?_
  refine lu (m_storeFl 0 (F := CompF) (p := p) (k := k) (xs := zs) (z := (mkC 2 k)) tw72.ok rfl rfl rfl rfl (by omega)) (l_nil (f_block (f_then ?_)))
  refine c_region (lE omi (lv (v := Nx (k + 1)) (e_add rfl rfl (i64n (by omega) (by omega))) (lE oai (l_nil ?_))))
  exact f_cut ⟨(k + 1,(zs.set k (mkC 2 k))),⟨⟨rfl,rfl⟩,rfl,⟨by omega,by simp only [sB,List.length_set]; exact hzl⟩⟩,(show min c (n + 12) - (k + 1) < min c (n + 12) - k from by omega)⟩
 refine c_exit (f_then_exit (f_then_exit (f_exit (end0 Tryz.results201 ?_))))
 intro w hw
 exact ⟨zs,rfl,st_mask [true] rfl hw⟩
theorem overE_ok (β : Base) (w : World) (id : Int) (p : Option Addr) (c n : Nat) (ys : List KComp) (hyl : ys.length = n + 12) (hn : n ≤ 1000000) (hw : St β [rowF CompF 120 p c ys] w) : Calls Tryz.prog 141 #[.agg #[Ix id, .slice p n c]] w fun r w' => ∃ zs, r = .returned (.tuple #[]) ∧ St β [rowF CompF 120 p c zs] w' := by
 refine enter (n := 5) Tryz.func141 rfl Tryz.ntmps141 rfl ?_ hw
 refine csr (bxa fun b1 => ?_)
 refine lnr (lE ofp (lE (ols 0) (l_call rfl rfl rfl (cl0 (vs := [.slice p (n) c]) tw74.ok rfl rfl) ?_)))
 intro w hw
 replace hw := hw.perm (L' := _ :: _ :: []) (by exact ((perm_front 0 rfl).trans (perm_front 1 rfl)))
 obtain ⟨β1,sb,kn,hw1,back⟩ := St.frame (L := [_]) (M := _ :: []) hw
 refine (overC_ok β1 w _ _ _ ys hyl (by omega) hw1).mono ?_
 rintro e w' ⟨zs2,rfl,hw'⟩
 refine ⟨_,rfl,_,back _ _ hw',?_⟩
 clear hw hw1 hw' back kn sb
 refine l_nil (end0 Tryz.results141 ?_)
 intro w hw
 exact ⟨zs2,rfl,st_mask [true,false] rfl hw⟩
set_option maxHeartbeats 4000000 in
theorem overEs_ok (β : Base) (w : World) (p : Option Addr) (c : Nat) (ov : List OL) (ms : List KHd) (hms : ms.length = 12) (hle : ov.length ≤ 1000) (hov : ∀ o ∈ ov, o.e.comps.length ≤ 1000) (hw : St β [rowF HdF 59 p c (ov.map OL.hd ++ ms), Sat (ov.map ownL)] w) : Ret Tryz.prog 81 #[sB p ov c] β w (.tuple #[]) := by
 have hol : (ov.map OL.hd ++ ms).length = ov.length + 12 := by rw [List.length_append,List.length_map,hms]
 refine enter (n := 35) Tryz.func81 rfl Tryz.ntmps81 rfl ?_ hw
 refine cs2 (c_region (lE oai (lnf (c_block ?_))))
 refine c_loop (fun (x_ : List OL × List OL) f L => match x_ with | (pre,post) => (f 0 = sB p ov c ∧ f 2 = Nx (pre.length)) ∧ L = [rowF HdF 59 p c (ov.map OL.hd ++ ms),Sat (post.map ownL)] ∧ (ov = pre ++ post)) (fun (pre,post) => post.length) ([],ov) ?_ ?_
 ·exact ⟨⟨rfl,rfl⟩,rfl,rfl⟩
 rintro ⟨pre,post⟩ f0 L0 ⟨⟨hs0,hs2⟩,hL,hpp⟩
 subst L0
 refine rbs 0 hs0 (rbs 2 hs2 ?_)
 have hlen : ov.length = pre.length + post.length := by rw [hpp,List.length_append]
 refine cs2 (c_region (lE omi (lE oms (lE oln (lE olt (lnf (c_if _ rfl (fun hc1 => ?_) (fun hc1 => ?_))))))))
 ·refine csk (c_seq (c_block ?_))
  obtain ⟨⟨oe,op,oc⟩,po,hpo⟩ := uncons hlen (by omega)
  have hx : (ov.map OL.hd ++ ms)[pre.length]? = some (⟨oe.id,op,oe.comps.length,oc⟩ : KHd) := by rw [hpp,hpo]; exact ol_at
  have hxl : oe.comps.length ≤ 1000 := hov ⟨oe,op,oc⟩ (by rw [hpp,hpo]; exact List.mem_append_right _ List.mem_cons_self)
  have hol : (ov.map OL.hd ++ ms).length = ov.length + 12 := by rw [List.length_append,List.length_map,hms]
  refine c_perm (L' := [Sat (post.map ownL),rowF HdF 59 p c (ov.map OL.hd ++ ms)]) (perm_ix [1,0] 2 rfl (by kernel_rfl) (by kernel_rfl)) ?_
  rw [hpo]
  refine c_headR (r := rowF CompF 120 op oc (oe.comps ++ marksC 12)) (Ls := po.map ownL) (M := [rowF HdF 59 p c (ov.map OL.hd ++ ms)]) rfl (c_region ?_)
  refine lE oms (lE omi ?_)
  refine lv (v := .pointer (some ((ba p).add (pre.length * 2)))) (e_indexRow 2 (j := pre.length) rfl rfl tw29 (by omega) (by omega) rfl) ?_
  refine lv (v := .agg #[Ix (oe.id),sB op oe.comps oc]) (e_load tw7.ok rfl (k_flAt 2 (F := HdF) rfl hx) rfl) ?_
  refine l_call rfl rfl rfl (cl0 (vs := [.agg #[Ix (oe.id),sB op oe.comps oc]]) tw75.ok rfl rfl) ?_
  intro w hw
  replace hw := hw.perm (L' := _ :: _ :: _ :: []) (by exact (((perm_front 2 rfl).trans (perm_front 1 rfl)).trans (perm_front 2 rfl)))
  obtain ⟨β1,sb,kn,hw1,back⟩ := St.frame (L := [_]) (M := _ :: _ :: []) hw
  refine (overE_ok β1 w (oe.id) _ _ _ (oe.comps ++ marksC 12) (by rw [List.length_append,marksC_len]) (by omega) hw1).mono ?_
  rintro e w' ⟨zs2,rfl,hw'⟩
  refine ⟨_,rfl,_,back _ _ hw',?_⟩
  clear hw hw1 hw' back kn sb
  refine l_nil (f_block (f_then (c_region (lE omi (lv (v := Nx (pre.length + 1)) (e_add rfl rfl (i64n (by omega) (by omega))) (lE oai (l_nil ?_)))))))
  refine f_perm (L' := [rowF HdF 59 p c (ov.map OL.hd ++ ms),Sat (po.map ownL),rowF CompF 120 op oc zs2]) (perm_ix [2,1,0] 3 rfl (by kernel_rfl) (by kernel_rfl)) ?_
  refine f_mask [true,true,false] rfl ?_
  exact f_cut ⟨((pre ++ [(⟨oe,op,oc⟩ : OL)]),po),⟨⟨rfl,congrArg (fun z : Nat => Nx z) (by rw [List.length_append]; rfl)⟩,rfl,by rw [hpp,hpo,List.append_assoc]; rfl⟩,(Nat.lt_succ_self po.length)⟩
 refine c_exit (f_then_exit (f_then_exit (f_exit (fts (c_rowcap 0 rfl (fun hcl hcm => ?_))))))
 have hcm2 : c ≤ 9223372036854775807 := by unfold maxLen at hcm; omega
 have hol : (ov.map OL.hd ++ ms).length = ov.length + 12 := by rw [List.length_append,List.length_map,hms]
 refine c_mask [true,false] rfl (c_region (lE oms (lE oms (lv (v := Nx (c)) (e_cap (a := p) (n := ov.length) (c := c) rfl tw28.ok) (lE oms (lE oln ?_))))))
 refine lv (v := Nx (ov.length + 12)) (e_add rfl rfl (i64n (by omega) (by omega))) ?_
 refine lv (v := Nx (min c (ov.length + 12))) (ev_eq (congrArg (Value.int .i64) (by omega)) (e_min (a := ((c : Nat) : Int)) (b := ((ov.length + 12 : Nat) : Int)) rfl rfl)) ?_
 refine lv (v := .slice p (min c (ov.length + 12)) c) (e_slice_hi (a := p) (len := ov.length) (cap := c) (h := min c (ov.length + 12)) tw29 rfl rfl (by omega)) ?_
 refine lE oas (lnc (lE oai (lnf (c_block ?_))))
 refine c_loop (fun (x_ : Nat × List KHd) f L => match x_ with | (k,zs) => (f 3 = .slice p (min c (ov.length + 12)) c ∧ f 4 = Nx (k)) ∧ L = [rowF HdF 59 p c zs] ∧ (k ≤ min c (ov.length + 12) ∧ zs.length = ov.length + 12)) (fun (k,zs) => min c (ov.length + 12) - k) (0,(ov.map OL.hd ++ ms)) ?_ ?_
 ·exact ⟨⟨rfl,rfl⟩,rfl,⟨by omega,hol⟩⟩
 rintro ⟨k,zs⟩ f0 L0 ⟨⟨hs3,hs4⟩,hL,⟨hk,hzl⟩⟩
 subst L0
 refine rbs 3 hs3 (rbs 4 hs4 (cs2 (c_region (lE omi (lE oms (lE oln (lE olt (lnf (c_if _ rfl (fun hc3 => ?_) (fun hc3 => ?_))))))))))
 ·refine csk (c_seq (c_block (c_region (lE oms (lE omi (lE omi (lcR clA (fun w β1 sb kn hw1 => markEk_ok β1 w hw1 2 k (by omega) (by omega)) ?_)))))))
  refine lv (v := .pointer (some ((ba p).add (k * 2)))) (e_indexFlN 0 (F := HdF) rfl (by omega) rfl tw29 (by omega) rfl) ?_
  refine lu (m_storeFl 0 (F := HdF) (p := p) (k := k) (xs := zs) (z := (mkHd 2 k)) tw7.ok rfl rfl rfl rfl (by omega)) (l_nil (f_block (f_then ?_)))
  refine c_region (lE omi (lv (v := Nx (k + 1)) (e_add rfl rfl (i64n (by omega) (by omega))) (lE oai (l_nil ?_))))
  exact f_cut ⟨(k + 1,(zs.set k (mkHd 2 k))),⟨⟨rfl,rfl⟩,rfl,⟨by omega,by simp only [sB,List.length_set]; exact hzl⟩⟩,(show min c (ov.length + 12) - (k + 1) < min c (ov.length + 12) - k from by omega)⟩
 refine c_exit (f_then_exit (f_then_exit (f_exit (end0 Tryz.results81 ?_))))
 intro w hw
 exact ⟨rfl,st_mask [false] rfl hw⟩
theorem overW_ok (β : Base) (w : World) (t : Int) (p : Option Addr) (c : Nat) (ov : List OL) (hle : ov.length ≤ 1000) (hov : ∀ o ∈ ov, o.e.comps.length ≤ 1000) (hw : St β [lentO p c ov] w) : Ret Tryz.prog 29 #[.agg #[Ix t, sB p ov c]] β w (.tuple #[]) := by
 refine enter (n := 5) Tryz.func29 rfl Tryz.ntmps29 rfl ?_ hw
 refine c_seq (c_unbun (K := [rowF HdF 59 p c (ov.map OL.hd ++ marksH 12),Sat (ov.map ownL)]) (M := []) rfl (c_region (bxa fun b1 => ?_)))
 refine lnr (lE ofp (lE (ols 0) (l_call rfl rfl rfl (cl0 (vs := [sB p ov c]) tw77.ok rfl rfl) ?_)))
 intro w hw
 replace hw := hw.perm (L' := _ :: _ :: _ :: []) (by exact (((perm_front 0 rfl).trans (perm_front 2 rfl)).trans (perm_front 2 rfl)))
 obtain ⟨β1,sb,kn,hw1,back⟩ := St.frame (L := [_,_]) (M := _ :: []) hw
 refine (overEs_ok β1 w _ _ ov (marksH 12) (marksH_len 12) hle hov hw1).mono ?_
 rintro e w' ⟨rfl,hw'⟩
 refine ⟨_,rfl,_,back _ _ hw',?_⟩
 clear hw hw1 hw' back kn sb
 refine l_nil (end0 Tryz.results29 ?_)
 intro w hw
 exact ⟨rfl,st_mask [false] rfl hw⟩
set_option maxHeartbeats 4000000 in
theorem smallW_ok (β : Base) (w : World) (hw : St β [] w) (t : Int) (v : Value) (es : List KEnt) (hs : Sl EntR β.heap v es) : Calls Tryz.prog 5 #[.agg #[Ix t, v]] w fun r w' => ∃ b, r = .returned (.bool b) ∧ (b = true → es.length ≤ 12 ∧ ∀ e ∈ es, e.comps.length ≤ 8) ∧ St β [] w' := by
 obtain ⟨va,vc,rfl,vl,vm,ve⟩ := hs.get
 refine enter (n := 23) Tryz.func5 rfl Tryz.ntmps5 rfl ?_ hw
 refine csr (bxa fun b1 => ?_)
 refine lE oab (lnf (cs2 (c_region (lE oai (lnf (c_block ?_))))))
 refine c_loop (fun (k : Nat) f L => (f 1 = pp b1 0 ∧ f 3 = Nx (k)) ∧ L = [pt b1 (.cells #[Ix (t),sB va es (vc)] 24)] ∧ (k ≤ es.length ∧ k ≤ 12 ∧ ∀ e ∈ es.take k,e.comps.length ≤ 8)) (fun k => es.length - k) 0 ?_ ?_
 ·exact ⟨⟨rfl,rfl⟩,rfl,⟨by omega,by omega,by simp⟩⟩
 rintro k f0 L0 ⟨⟨hs1,hs3⟩,hL,⟨hk,hk2,hall⟩⟩
 subst L0
 refine rbs 1 hs1 (rbs 3 hs3 (cs2 (c_region (lE omi (lE ofp (lE (ols 0) (lE oln (lE olt (lnf (c_if _ rfl (fun hc2 => ?_) (fun hc2 => ?_)))))))))))
 ·refine csk (c_seq (c_block (csr (lE omi (lE oge (lE omb (l_split (s := 13) rfl (fun hg3 => ?_) (fun hg3 => ?_))))))))
  ·iterate 8 refine skE ?_
   refine lE oktb (lnf (c_yes rfl (csr (lE oab (lnf (c_ret (f_block_ret (f_then_ret (f_then_ret (f_block_ret (f_then_ret (ret1 Tryz.results5 rfl ?_))))))))))))
   intro w hw
   exact ⟨false,rfl,by simp,st_mask [false] rfl hw⟩
  refine gE ofp (gE (ols 0) (gE omi ?_))
  obtain ⟨x4,hx5⟩ := getx es k (by omega)
  obtain ⟨ha6,cs7,hc8,hr9⟩ := ve _ _ hx5
  obtain ⟨v10,rfl,hv11⟩ := hr9
  obtain ⟨v10a,v10c,rfl,v10l,v10m,v10e⟩ := hv11.get
  refine gE (oia tw29 ha6) (gE ofa ?_)
  refine g_val (v := sB v10a x4.comps (v10c)) rfl rfl rfl rfl rfl (e_load1 tw1.ok rfl (Knows.imp (kB hc8) (fun _ h => Cs.sub (vs := [sB v10a x4.comps (v10c)]) 1 h rfl))) ?_
  refine gE oln (gE ogt (lE okfb (lnf (c_if _ rfl (fun hc12 => ?_) (fun hc12 => ?_)))))
  ·refine csr (lE oab (lnf (c_ret (f_block_ret (f_then_ret (f_then_ret (f_block_ret (f_then_ret (ret1 Tryz.results5 rfl ?_)))))))))
   intro w hw
   exact ⟨false,rfl,by simp,st_mask [false] rfl hw⟩
  refine c_skip (f_block (f_then (c_region (lE omi (lv (v := Nx (k + 1)) (e_add rfl rfl (i64n (by omega) (by omega))) (lE oai (l_nil ?_)))))))
  exact f_cut ⟨k + 1,⟨⟨rfl,rfl⟩,rfl,⟨by omega,by omega,fun e he => (mem_next hx5 he).elim (hall e) (fun q => by rw [q]; omega)⟩⟩,(show es.length - (k + 1) < es.length - k from by omega)⟩
 refine c_exit (f_then_exit (f_then_exit (f_exit (ftc (lE oab (lnf (c_ret (ret1 Tryz.results5 rfl ?_))))))))
 intro w hw
 exact ⟨true,rfl,fun _ => ⟨by omega,by rw [List.take_of_length_le (by omega)] at hall; exact hall⟩,st_mask [false] rfl hw⟩
end Go.Proofs
