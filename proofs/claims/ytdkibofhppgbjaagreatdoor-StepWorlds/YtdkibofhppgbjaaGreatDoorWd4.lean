/-
 Components,entities and worlds share no memory: walked. Printed by a program of my own.
-/
import Derived.Test.YtdkibofhppgbjaaGreatDoorWd3
import Derived.Test.YtdkibofhppgbjaaGreatDoorSlB
namespace Go.Stp
open Go.Sl Go.Proofs
theorem comp_eq {x y : KComp} : [Bx x.kind, Ix x.v0, Ix x.v1, Ix x.v2, Ix x.v3] = [Bx y.kind, Ix y.v0, Ix y.v1, Ix y.v2, Ix y.v3] ↔ x = y := by
 constructor
 ·intro h
  cases x; cases y
  injection h with h1 h2
  have := bx_inj h1
  simp at h2 this
  simp [h2,this]
 rintro rfl; rfl
end Go.Stp
namespace Go.Proofs
open Go Go.Sl Go.Stp
instance tw78 : UndC Tryz.prog 133 57 := ⟨by kernel_rfl⟩
theorem tw79 : slB Tryz.prog 133 57 1 = true := by kernel_rfl
theorem tw80 : elB Tryz.prog 57 1 24 = true := by kernel_rfl
instance tw81 : ZerC Tryz.prog 57 (.slice none 0 0) := ⟨by kernel_rfl⟩
theorem tw82 : lay Tryz.prog 10000 120 = some [.int .u8, .int .i64, .int .i64, .int .i64, .int .i64] := by kernel_rfl
theorem tw83 : isAggT Tryz.prog 120 = true := by kernel_rfl
theorem tw84 : Tryz.prog.eqGuardType Tryz.prog.depth 120 = false := by kernel_rfl
instance tw85 : UndC Tryz.prog 134 22 := ⟨by kernel_rfl⟩
theorem tw86 : slB Tryz.prog 134 22 1 = true := by kernel_rfl
theorem tw87 : elB Tryz.prog 22 1 24 = true := by kernel_rfl
instance tw88 : ZerC Tryz.prog 22 (.slice none 0 0) := ⟨by kernel_rfl⟩
instance tw89 : CfC Tryz.prog 113 := ⟨by kernel_rfl⟩
instance tw90 : UndC Tryz.prog 69 68 := ⟨by kernel_rfl⟩
theorem tw91 : slB Tryz.prog 69 68 1 = true := by kernel_rfl
instance tw92 : TyC Tryz.prog 68 false 1 := ⟨by kernel_rfl⟩
instance tw93 : UndC Tryz.prog 68 24 := ⟨by kernel_rfl⟩
instance tw94 : CfC Tryz.prog 185 := ⟨by kernel_rfl⟩
theorem tw95 : slB Tryz.prog 68 24 2 = true := by kernel_rfl
theorem tw96 : elB Tryz.prog 68 1 24 = true := by kernel_rfl
instance tw97 : ZerC Tryz.prog 68 (.slice none 0 0) := ⟨by kernel_rfl⟩
theorem tw98 : elB Tryz.prog 24 2 32 = true := by kernel_rfl
instance tw99 : CfC Tryz.prog 21 := ⟨by kernel_rfl⟩
instance tw100 : UndC Tryz.prog 130 243 := ⟨by kernel_rfl⟩
theorem tw101 : slB Tryz.prog 130 243 1 = true := by kernel_rfl
instance tw103 : UndC Tryz.prog 42 46 := ⟨by kernel_rfl⟩
theorem tw104 : slB Tryz.prog 42 46 1 = true := by kernel_rfl
instance tw106 : UndC Tryz.prog 131 245 := ⟨by kernel_rfl⟩
theorem tw107 : slB Tryz.prog 131 245 1 = true := by kernel_rfl
instance tw109 : UndC Tryz.prog 132 35 := ⟨by kernel_rfl⟩
theorem tw110 : slB Tryz.prog 132 35 1 = true := by kernel_rfl
instance tw112 : UndC Tryz.prog 135 250 := ⟨by kernel_rfl⟩
theorem tw113 : slB Tryz.prog 135 250 1 = true := by kernel_rfl
instance tw115 : UndC Tryz.prog 136 25 := ⟨by kernel_rfl⟩
theorem tw116 : slB Tryz.prog 136 25 1 = true := by kernel_rfl
instance tw118 : UndC Tryz.prog 137 252 := ⟨by kernel_rfl⟩
theorem tw119 : slB Tryz.prog 137 252 1 = true := by kernel_rfl
instance tw121 : UndC Tryz.prog 138 256 := ⟨by kernel_rfl⟩
theorem tw122 : slB Tryz.prog 138 256 1 = true := by kernel_rfl
instance tw124 : UndC Tryz.prog 139 94 := ⟨by kernel_rfl⟩
theorem tw125 : slB Tryz.prog 139 94 1 = true := by kernel_rfl
instance tw127 : UndC Tryz.prog 140 99 := ⟨by kernel_rfl⟩
theorem tw128 : slB Tryz.prog 140 99 1 = true := by kernel_rfl
instance tw130 : UndC Tryz.prog 141 26 := ⟨by kernel_rfl⟩
theorem tw131 : slB Tryz.prog 141 26 1 = true := by kernel_rfl
instance tw133 : UndC Tryz.prog 142 262 := ⟨by kernel_rfl⟩
theorem tw134 : slB Tryz.prog 142 262 1 = true := by kernel_rfl
instance tw136 : UndC Tryz.prog 143 267 := ⟨by kernel_rfl⟩
theorem tw137 : slB Tryz.prog 143 267 1 = true := by kernel_rfl
instance tw139 : UndC Tryz.prog 144 272 := ⟨by kernel_rfl⟩
theorem tw140 : slB Tryz.prog 144 272 1 = true := by kernel_rfl
instance tw142 : UndC Tryz.prog 145 38 := ⟨by kernel_rfl⟩
theorem tw143 : slB Tryz.prog 145 38 1 = true := by kernel_rfl
instance tw145 : UndC Tryz.prog 146 275 := ⟨by kernel_rfl⟩
theorem tw146 : slB Tryz.prog 146 275 1 = true := by kernel_rfl
instance tw148 : UndC Tryz.prog 147 279 := ⟨by kernel_rfl⟩
theorem tw149 : slB Tryz.prog 147 279 1 = true := by kernel_rfl
set_option maxHeartbeats 4000000 in
theorem flatC_ok (β : Base) (w : World) (v : Value) (HL : List H3) (hv : List (HV KComp)) (hhs : HL = hv.map HV.h) (hls : Sl H3F.R β.heap v HL) (hn : HL.length ≤ 1000) (hbd : ∀ v ∈ hv, v.xs.length ≤ 1000000) (hw : St β [Sat (hv.map (ownV CompF 120))] w) : Ret Tryz.prog 124 #[v] β w (.bool true) := by
 have hbd0 : ∀ h ∈ HL,h.n ≤ 1000000 := fun h hh => by rw [hhs] at hh; obtain ⟨v,hv_,rfl⟩ := List.mem_map.1 hh; exact hbd v hv_
 obtain ⟨lsa,lsc,rfl,lsl,lsm,lse⟩ := hls.get
 refine enter (n := 193) Tryz.func124 rfl Tryz.ntmps124 rfl ?_ hw
 refine csr (lE oab (lnf (cs2 (c_emp (r := Sat (fromK (rowK CompF 120 mkC) 0 [])) trivial (c_region (lE oai (lnf (c_block ?_))))))))
 refine c_loop (fun (x_ : List H3 × List (HV KComp)) f L => match x_ with | (pre,post) => (f 0 = sB lsa HL (lsc) ∧ f 3 = Nx (pre.length)) ∧ L = [Sat (fromK (rowK CompF 120 mkC) 0 pre),Sat (post.map (ownV CompF 120))] ∧ (HL = pre ++ post.map HV.h ∧ ∀ v ∈ post,v.xs.length ≤ 1000000)) (fun (pre,post) => post.length) ([],hv) ?_ ?_
 ·exact ⟨⟨rfl,rfl⟩,rfl,⟨hhs,hbd⟩⟩
 rintro ⟨pre,post⟩ f0 L0 ⟨⟨hs0,hs3⟩,hL,⟨hpp,hbp⟩⟩
 subst L0
 refine rbs 0 hs0 (rbs 3 hs3 ?_)
 have hlen : HL.length = pre.length + post.length := by rw [hpp,List.length_append,List.length_map]
 refine cs2 (c_region (lE omi (lE oms (lE oln (lE olt (lnf (c_if _ rfl (fun hc1 => ?_) (fun hc1 => ?_))))))))
 ·refine csk (c_seq (c_block (c_seq ?_)))
  obtain ⟨⟨xp,xc,xs⟩,po,hpo⟩ := uncons hlen (by omega)
  have hx : HL[pre.length]? = some (⟨xp,xs.length,xc⟩ : H3) := by rw [hpp,hpo]; exact mid_at rfl
  have hxl : xs.length ≤ 1000000 := hbp ⟨xp,xc,xs⟩ (by rw [hpo]; exact List.mem_cons_self)
  obtain ⟨hxa,cs_,hxc,rfl⟩ := lse _ _ hx
  refine c_perm (L' := [Sat (post.map (ownV CompF 120)),Sat (fromK (rowK CompF 120 mkC) 0 pre)]) (perm_ix [1,0] 2 rfl (by kernel_rfl) (by kernel_rfl)) ?_
  rw [hpo]
  refine c_headR (r := rowF CompF 120 xp xc xs) (Ls := po.map (ownV CompF 120)) (M := [Sat (fromK (rowK CompF 120 mkC) 0 pre)]) rfl (c_region ?_)
  refine lE oai (lnf (c_block ?_))
  refine c_loop (fun (i : Nat) f L => (f 0 = sB lsa HL (lsc) ∧ f 3 = Nx (pre.length) ∧ f 4 = Nx (i)) ∧ L = [Sat (po.map (ownV CompF 120)),rowF CompF 120 xp xc ((mkL mkC pre.length i) ++ xs.drop i),Sat (fromK (rowK CompF 120 mkC) 0 pre)] ∧ (i ≤ xs.length)) (fun i => xs.length - i) 0 ?_ ?_
  ·exact ⟨⟨rfl,rfl,rfl⟩,by rw [mkp_zero],by omega⟩
  rintro i f0 L0 ⟨⟨hs0,hs3,hs4⟩,hL,hi⟩
  subst L0
  refine rbs 0 hs0 (rbs 3 hs3 (rbs 4 hs4 (cs2 (c_region (lE omi (lE oms (lE omi (lE (oia tw79 hxa) ?_))))))))
  refine lv (v := sB xp xs xc) (e_load1 tw1.ok rfl (kB hxc)) (lE oln (lE olt (lnf (c_if _ rfl (fun hc2 => ?_) (fun hc2 => ?_)))))
  ·refine csk (c_seq (c_block ?_))
   refine cny [sv 31 (sB lsa HL (lsc)) [] [] [0],sv 32 (Nx (pre.length)) [] [] [1],sv 33 (.pointer (some ((ba lsa).add (pre.length * 1)))) [0,1] [0,1] [],sv 34 (sB xp xs xc) [0,1,2] [2] [],sv 35 (Nx (i)) [] [] [2],sv 36 (Nx (pre.length)) [] [] [1],sv 37 (Nx (i)) [] [] [2],sv 38 (.agg #[Bx ((mkC pre.length i).kind),Ix ((mkC pre.length i).v0),Ix ((mkC pre.length i).v1),Ix ((mkC pre.length i).v2),Ix ((mkC pre.length i).v3)]) [5,6] [5,6] [],sv 39 (.pointer (some ((ba xp).add (i * 5)))) (List.range 8) [3,4] [],⟨(List.range 9),[8,7],[],[],fun _ => True⟩] [tk (Sat (po.map (ownV CompF 120))) [],⟨none,(some 9),[8,9],[],fun _ => rowF CompF 120 xp xc ((mkL mkC pre.length i) ++ xs.drop i)⟩,tk (Sat (fromK (rowK CompF 120 mkC) 0 pre)) [],⟨(some 9),none,[],[],fun _ => rowF CompF 120 xp xc (((mkL mkC pre.length i) ++ xs.drop i).set i (mkC pre.length i))⟩] [(0,sB lsa HL (lsc)),(3,Nx (pre.length)),(4,Nx (i))] [0,1,2] [] ⟨rfl,rfl,rfl,trivial⟩ ⟨?_,?_,?_,?_,?_,?_,?_,?_,?_,?_,trivial⟩ ?_
   ·rintro f M - ⟨i0,-⟩
    exact obE oms
   ·rintro f M - ⟨i0,-⟩
    exact obE omi
   ·rintro f M ⟨k0,k1,-⟩ -
    exact ob0 (up_cons (d := 32) (up_cons (d := 31) rfl k0) k1) rfl (e_indexAddr rfl rfl tw79 (by omega) hxa) (.refl _)
   ·rintro f M ⟨k0,-⟩ -
    exact ob0 (up_cons (d := 33) rfl k0) rfl (e_load1 tw1.ok rfl (kB hxc)) (.refl _)
   ·rintro f M - ⟨i0,-⟩
    exact obE omi
   ·rintro f M - ⟨i0,-⟩
    exact obE omi
   ·rintro f M - ⟨i0,-⟩
    exact obE omi
   ·rintro f M ⟨k0,k1,-⟩ -
    refine ob_start (L' := M) (by rfl) (up_cons (d := 37) (up_cons (d := 36) rfl k0) k1) ?_
    refine lcR clA (fun w β1 sb kn hw1 => markCk_ok β1 w hw1 pre.length i (by omega) (by omega)) (l_nil ?_)
    exact f_owes_d (up_cons (d := 37) (up_cons (d := 36) rfl k0) k1) rfl (List.Perm.refl _)
   ·rintro f M ⟨k0,k1,-⟩ -
    exact obv (L' := rowF CompF 120 xp xc ((mkL mkC pre.length i) ++ xs.drop i) :: M) (up_cons (d := 35) (up_cons (d := 34) rfl k0) k1) rfl (e_indexFlN 0 (F := CompF) (j := i) (m := xs.length) (xs := ((mkL mkC pre.length i) ++ xs.drop i)) rfl (mkp_len (by omega)).symm rfl tw3 (by omega) rfl) (perm_front 0 rfl) (by rfl)
   ·rintro f M ⟨k0,k1,-⟩ -
    refine ob_start (L' := rowF CompF 120 xp xc ((mkL mkC pre.length i) ++ xs.drop i) :: M) (by rfl) (up_cons (d := 38) (up_cons (d := 39) rfl k0) k1) ?_
    refine lu (m_storeFl 0 (F := CompF) (p := xp) (k := i) (xs := ((mkL mkC pre.length i) ++ xs.drop i)) (z := (mkC pre.length i)) tw72.ok rfl rfl rfl rfl (by rw [mkp_len (by first | omega | (rw [List.length_replicate]; omega))]; (try rw [List.length_replicate]); omega)) ?_
    refine l_nil ?_
    exact f_owes_n (up_cons (d := 38) (up_cons (d := 39) rfl k0) k1) trivial (perm_front 0 rfl)
   rintro fa3 ⟨-,-,-,-,-,-,-,-,-,-,-⟩ ⟨j0,j1,j2,-⟩
   refine f_re (L' := [Sat (po.map (ownV CompF 120)),Sat (fromK (rowK CompF 120 mkC) 0 pre),rowF CompF 120 xp xc (((mkL mkC pre.length i) ++ xs.drop i).set i (mkC pre.length i))]) (by rfl) ?_
   refine f_rebase (d := 0) j0 (f_rebase (d := 3) j1 (f_rebase (d := 4) j2 (f_block (f_then (c_region (lE omi ?_))))))
   refine lv (v := Nx (i + 1)) (e_add rfl rfl (i64n (by omega) (by omega))) (lE oai (l_nil ?_))
   refine f_perm (L' := [Sat (po.map (ownV CompF 120)),rowF CompF 120 xp xc (((mkL mkC pre.length i) ++ xs.drop i).set i (mkC pre.length i)),Sat (fromK (rowK CompF 120 mkC) 0 pre)]) (perm_ix [0,2,1] 3 rfl (by kernel_rfl) (by kernel_rfl)) ?_
   exact f_cut ⟨i + 1,⟨⟨rfl,rfl,rfl⟩,by rw [mkp_step (by omega)],by omega⟩,(show xs.length - (i + 1) < xs.length - i from by omega)⟩
  refine c_exit (f_then_exit (f_then_exit (f_exit (f_block (f_then ?_)))))
  obtain rfl : i = xs.length := by omega
  rw [mkp_done (Nat.le_refl _)]
  refine c_perm (L' := [Sat (fromK (rowK CompF 120 mkC) 0 pre),rowF CompF 120 xp xc (mkL mkC pre.length xs.length),Sat (po.map (ownV CompF 120))]) (perm_ix [2,1,0] 3 rfl (by kernel_rfl) (by kernel_rfl)) ?_
  refine c_snocR (Ls' := fromK (rowK CompF 120 mkC) 0 (pre ++ [(⟨xp,xs.length,xc⟩ : H3)])) (M := [Sat (po.map (ownV CompF 120))]) rfl (snocK (rowK CompF 120 mkC) (⟨xp,xs.length,xc⟩ : H3) pre) ?_
  refine c_region (lE omi (lv (v := Nx (pre.length + 1)) (e_add rfl rfl (i64n (by omega) (by omega))) (lE oai (l_nil ?_))))
  exact f_cut ⟨((pre ++ [(⟨xp,xs.length,xc⟩ : H3)]),po),⟨⟨rfl,congrArg (fun z : Nat => Nx z) (by rw [List.length_append]; rfl)⟩,rfl,⟨by rw [hpp,hpo,List.append_assoc]; rfl,fun v hv => hbp v (by rw [hpo]; exact List.mem_cons_of_mem _ hv)⟩⟩,(Nat.lt_succ_self po.length)⟩
 refine c_exit (f_then_exit (f_then_exit (f_exit (fts ?_))))
 have hlen : HL.length = pre.length + post.length := by rw [hpp,List.length_append,List.length_map]
 obtain rfl := unnil hlen (by omega)
 obtain rfl : HL = pre := by rw [hpp,List.map_nil,List.append_nil]
 refine c_mask [true,false] rfl (c_region (lE oms (lE oln ?_)))
 refine l_mv rfl rfl rfl (m_makeFl (F := H3F) (x0 := (⟨none,0,0⟩ : H3)) (c := HL.length) tw79 tw80 tw81.ok rfl rfl rfl (by unfold maxLen; omega) (by omega)) ?_
 rintro _ _ ⟨b4,rfl,rfl⟩
 refine lE oas (lnf (cs2 (c_emp (r := Sat (fromK (famK CompF 120 mkC) 0 [])) trivial ?_)))
 refine c_perm (L' := [Sat (fromK (famK CompF 120 mkC) 0 []),Sat (fromK (rowK CompF 120 mkC) 0 HL),rowF H3F 57 (some ⟨b4,0,none⟩) HL.length (List.replicate HL.length (⟨none,0,0⟩ : H3))]) (perm_ix [0,2,1] 3 rfl (by kernel_rfl) (by kernel_rfl)) ?_
 refine c_region (lE oai (lnf (c_block ?_)))
 refine c_loop (fun (x_ : List Z5 × List H3) f L => match x_ with | (zs,post) => (f 0 = sB lsa HL (lsc) ∧ f 5 = sB (some ⟨b4,0,none⟩) HL HL.length ∧ f 6 = Nx (zs.length)) ∧ L = [Sat (fromK (famK CompF 120 mkC) 0 zs),Sat (fromK (rowK CompF 120 mkC) zs.length post),rowF H3F 57 (some ⟨b4,0,none⟩) HL.length (zs.map gh3 ++ List.replicate post.length (⟨none,0,0⟩ : H3))] ∧ (HL = zs.map Z5.h ++ post)) (fun (zs,post) => post.length) ([],HL) ?_ ?_
 ·exact ⟨⟨rfl,rfl,rfl⟩,rfl,rfl⟩
 rintro ⟨zs,post⟩ f0 L0 ⟨⟨hs0,hs5,hs6⟩,hL,hpp⟩
 subst L0
 refine rbs 0 hs0 (rbs 5 hs5 (rbs 6 hs6 ?_))
 have hlen : HL.length = zs.length + post.length := by rw [hpp,List.length_append,List.length_map]
 refine cs2 (c_region (lE omi (lE oms (lE oln (lE olt (lnf (c_if _ rfl (fun hc5 => ?_) (fun hc5 => ?_))))))))
 ·refine csk (c_seq (c_block (c_seq ?_)))
  obtain ⟨⟨xp,xn,xc⟩,po,hpo⟩ := uncons hlen (by omega)
  have hx : HL[zs.length]? = some (⟨xp,xn,xc⟩ : H3) := by rw [hpp,hpo]; exact mid_at (List.length_map _).symm
  have hxl : xn ≤ 1000000 := hbd0 _ (List.mem_of_getElem? hx)
  obtain ⟨hxa,cs_,hxc,rfl⟩ := lse _ _ hx
  refine c_perm (L' := [Sat (fromK (rowK CompF 120 mkC) zs.length post),Sat (fromK (famK CompF 120 mkC) 0 zs),rowF H3F 57 (some ⟨b4,0,none⟩) HL.length (zs.map gh3 ++ List.replicate post.length (⟨none,0,0⟩ : H3))]) (perm_ix [1,0,2] 3 rfl (by kernel_rfl) (by kernel_rfl)) ?_
  rw [hpo]
  refine c_headR (r := rowF CompF 120 xp xc (mkL mkC zs.length xn)) (Ls := fromK (rowK CompF 120 mkC) (zs.length + 1) po) (M := [Sat (fromK (famK CompF 120 mkC) 0 zs),rowF H3F 57 (some ⟨b4,0,none⟩) HL.length (zs.map gh3 ++ (⟨none,0,0⟩ : H3) :: List.replicate po.length (⟨none,0,0⟩ : H3))]) rfl ?_
  have hpl : post.length = po.length + 1 := by rw [hpo]; rfl
  refine c_region (lE oms (lE omi (lE (oia tw79 hxa) (lv (v := .slice xp (xn) xc) (e_load1 tw1.ok rfl (kB hxc)) (lE oas (lnf (cs2 ?_)))))))
  refine c_conseq 1 (r' := famF CompF 120 xp xc (mkL mkC zs.length xn) xp xc (mkL mkC zs.length xn)) rfl famF_start (c_region (lE oai (lnf (c_block ?_))))
  refine c_loop (fun (x_ : Nat × Option Addr × Nat) f L => match x_ with | (i,q,e) => (f 0 = sB lsa HL (lsc) ∧ f 5 = sB (some ⟨b4,0,none⟩) HL HL.length ∧ f 6 = Nx (zs.length) ∧ f 7 = .slice q (xn + i) e ∧ f 8 = Nx (i)) ∧ L = [Sat (fromK (rowK CompF 120 mkC) (zs.length + 1) po),famF CompF 120 xp xc (mkL mkC zs.length xn) q e (mkL mkC zs.length (xn + i)),Sat (fromK (famK CompF 120 mkC) 0 zs),rowF H3F 57 (some ⟨b4,0,none⟩) HL.length (zs.map gh3 ++ (⟨none,0,0⟩ : H3) :: List.replicate po.length (⟨none,0,0⟩ : H3))] ∧ (i ≤ 64)) (fun (i,q,e) => 64 - i) (0,xp,xc) ?_ ?_
  ·exact ⟨⟨rfl,rfl,rfl,rfl,rfl⟩,rfl,by omega⟩
  rintro ⟨i,q,e⟩ f0 L0 ⟨⟨hs0,hs5,hs6,hs7,hs8⟩,hL,hi⟩
  subst L0
  refine rbs 0 hs0 (rbs 5 hs5 (rbs 6 hs6 (rbs 7 hs7 (rbs 8 hs8 (cs2 (c_region (lE omi (lE olt (lnf (c_if _ rfl (fun hc6 => ?_) (fun hc6 => ?_)))))))))))
  ·refine csk (c_seq (c_block (c_region (lE oms (lE omi (lE oms (lE omi (lE (oia tw79 hxa) (lv (v := .slice xp (xn) xc) (e_load1 tw1.ok rfl (kB hxc)) ?_)))))))))
   refine lE oln (lE omi (lE opn (lcR clA (fun w β1 sb kn hw1 => markCk_ok β1 w hw1 zs.length (xn + i) (by omega) (by omega)) ?_)))
   refine l_mv rfl rfl rfl (m_slices tw3 tw69.ok (cells := #[Bx ((mkC zs.length (xn + i)).kind),Ix ((mkC zs.length (xn + i)).v0),Ix ((mkC zs.length (xn + i)).v1),Ix ((mkC zs.length (xn + i)).v2),Ix ((mkC zs.length (xn + i)).v3)]) rfl rfl rfl rfl) ?_
   rintro _ _ ⟨b7,rfl,rfl⟩
   refine l_mv rfl rfl rfl (m_append_famF (F := CompF) 2 tw3 tw49 (q := q) (m := xn + i) (e := e) (zs := [(mkC zs.length (xn + i))]) (ad := ⟨b7,0,none⟩) (k := 1) (cc := 1) rfl rfl (mkL_len _ _).symm rfl rfl (k_pt 0 rfl rfl) (by omega) (by unfold maxLen; omega) (by omega)) ?_
   rintro _ _ ⟨rp8,rc9,rfl,rfl⟩
   refine lE oas (l_nil (f_block (f_then (c_region (lE omi (lv (v := Nx (i + 1)) (e_add rfl rfl (i64n (by omega) (by omega))) (lE oai (l_nil ?_))))))))
   refine f_mask [false,true,true,true,true] rfl ?_
   exact f_cut ⟨(i + 1,rp8,rc9),⟨⟨rfl,rfl,rfl,rfl,rfl⟩,by rw [mkL_succ] <;> rfl,by omega⟩,(show 64 - (i + 1) < 64 - i from by omega)⟩
  refine c_exit (f_then_exit (f_then_exit (f_exit (f_then (c_region (lE oms (lE omi (lE oms ?_))))))))
  refine lv (v := .pointer (some ((ba (some ⟨b4,0,none⟩)).add (zs.length * 1)))) (e_indexFlN 3 (F := H3F) rfl (by simp only [List.length_append,List.length_map,List.length_replicate,List.length_cons,List.length_set]; omega) rfl tw79 (by omega) rfl) ?_
  refine lu (m_storeFl 3 (F := H3F) (p := (some ⟨b4,0,none⟩)) (k := zs.length) (xs := (zs.map gh3 ++ (⟨none,0,0⟩ : H3) :: List.replicate po.length (⟨none,0,0⟩ : H3))) (z := (⟨q,xn + i,e⟩ : H3)) tw1.ok rfl rfl rfl rfl (by simp only [List.length_append,List.length_map,List.length_replicate,List.length_cons]; omega)) ?_
  refine l_nil (f_block (f_then ?_))
  obtain rfl : i = 64 := by omega
  refine c_perm (L' := [Sat (fromK (famK CompF 120 mkC) 0 zs),famF CompF 120 xp xc (mkL mkC zs.length xn) q e (mkL mkC zs.length (xn + 64)),Sat (fromK (rowK CompF 120 mkC) (zs.length + 1) po),rowF H3F 57 (some ⟨b4,0,none⟩) HL.length ((zs.map gh3 ++ (⟨none,0,0⟩ : H3) :: List.replicate po.length (⟨none,0,0⟩ : H3)).set zs.length (⟨q,xn + 64,e⟩ : H3))]) (perm_ix [2,1,0,3] 4 rfl (by kernel_rfl) (by kernel_rfl)) ?_
  refine c_re (L' := [Sat (fromK (famK CompF 120 mkC) 0 zs),famF CompF 120 xp xc (mkL mkC zs.length xn) q e (mkL mkC zs.length (xn + 64)),Sat (fromK (rowK CompF 120 mkC) (zs.length + 1) po),rowF H3F 57 (some ⟨b4,0,none⟩) HL.length ((zs ++ [(⟨(⟨xp,xn,xc⟩ : H3),q,e⟩ : Z5)]).map gh3 ++ List.replicate po.length (⟨none,0,0⟩ : H3))]) (by rw [← gs_set]; rfl) ?_
  refine c_snocR (Ls' := fromK (famK CompF 120 mkC) 0 (zs ++ [(⟨(⟨xp,xn,xc⟩ : H3),q,e⟩ : Z5)])) (M := [Sat (fromK (rowK CompF 120 mkC) (zs.length + 1) po),rowF H3F 57 (some ⟨b4,0,none⟩) HL.length ((zs ++ [(⟨(⟨xp,xn,xc⟩ : H3),q,e⟩ : Z5)]).map gh3 ++ List.replicate po.length (⟨none,0,0⟩ : H3))]) rfl (snocK (famK CompF 120 mkC) (⟨(⟨xp,xn,xc⟩ : H3),q,e⟩ : Z5) zs) ?_
  refine c_region (lE omi (lv (v := Nx (zs.length + 1)) (e_add rfl rfl (i64n (by omega) (by omega))) (lE oai (l_nil ?_))))
  exact f_cut ⟨((zs ++ [⟨(⟨xp,xn,xc⟩ : H3),q,e⟩]),po),⟨⟨rfl,rfl,congrArg (fun z : Nat => Nx z) (by rw [List.length_append]; rfl)⟩,by rw [List.length_append] <;> rfl,by rw [hpp,hpo,List.map_append,List.append_assoc]; rfl⟩,(Nat.lt_succ_self po.length)⟩
 refine c_exit (f_then_exit (f_then_exit (f_exit (fts (c_seq ?_)))))
 have hlen : HL.length = zs.length + post.length := by rw [hpp,List.length_append,List.length_map]
 obtain rfl := unnil hlen (by omega)
 have hz : HL = zs.map Z5.h := by rw [hpp,List.append_nil]
 have hzl : zs.length = HL.length := by rw [hz,List.length_map]
 refine c_re (L' := [Sat (fromK (famK CompF 120 mkC) 0 zs),Sat (fromK (rowK CompF 120 mkC) zs.length ([] : List H3)),rowF H3F 57 (some ⟨b4,0,none⟩) HL.length (zs.map gh3)]) (by rw [show List.replicate ([] : List H3).length (⟨none,0,0⟩ : H3) = [] from rfl,List.append_nil]) ?_
 refine c_mask [true,false,true] rfl (c_region (lE oai (lnf (c_block ?_))))
 refine c_loop (fun (k : Nat) f L => (f 0 = sB lsa HL (lsc) ∧ f 5 = sB (some ⟨b4,0,none⟩) HL HL.length ∧ f 9 = Nx (k)) ∧ L = [Sat (fromK (famK CompF 120 mkC) 0 zs),rowF H3F 57 (some ⟨b4,0,none⟩) HL.length (zs.map gh3)] ∧ (k ≤ HL.length)) (fun k => HL.length - k) 0 ?_ ?_
 ·exact ⟨⟨rfl,rfl,rfl⟩,rfl,by omega⟩
 rintro k f0 L0 ⟨⟨hs0,hs5,hs9⟩,hL,hk⟩
 subst L0
 refine rbs 0 hs0 (rbs 5 hs5 (rbs 9 hs9 (cs2 (c_region (lE omi (lE oms (lE oln (lE olt (lnf (c_if _ rfl (fun hc10 => ?_) (fun hc10 => ?_)))))))))))
 ·refine csk (c_seq (c_block (c_seq ?_)))
  obtain ⟨⟨⟨zp,zn,zc⟩,zq,ze⟩,hzk⟩ : ∃ z_,zs[k]? = some z_ := ⟨_,List.getElem?_eq_getElem (by omega)⟩
  have hx : HL[k]? = some (⟨zp,zn,zc⟩ : H3) := by rw [hz,List.getElem?_map,hzk]; rfl
  have hxl : zn ≤ 1000000 := hbd0 _ (List.mem_of_getElem? hx)
  have hgk : (zs.map gh3)[k]? = some (⟨zq,zn + 64,ze⟩ : H3) := by rw [List.getElem?_map,hzk]; rfl
  obtain ⟨hxa,cs_,hxc,rfl⟩ := lse _ _ hx
  refine c_takeN k (r := famF CompF 120 zp zc (mkL mkC k zn) zq ze (mkL mkC k (zn + 64))) (fromK_at0 _ hzk) rfl (c_region (lE oai (lnf (c_block ?_))))
  refine c_loop (fun (i : Nat) f L => (f 0 = sB lsa HL (lsc) ∧ f 5 = sB (some ⟨b4,0,none⟩) HL HL.length ∧ f 9 = Nx (k) ∧ f 10 = Nx (i)) ∧ L = [Sat ((fromK (famK CompF 120 mkC) 0 zs).eraseIdx k),famF CompF 120 zp zc (mkL mkC k zn) zq ze (mkL mkC k (zn + 64)),rowF H3F 57 (some ⟨b4,0,none⟩) HL.length (zs.map gh3)] ∧ (i ≤ zn + 64)) (fun i => zn + 64 - i) 0 ?_ ?_
  ·exact ⟨⟨rfl,rfl,rfl,rfl⟩,rfl,by omega⟩
  rintro i f0 L0 ⟨⟨hs0,hs5,hs9,hs10⟩,hL,hi⟩
  subst L0
  refine rbs 0 hs0 (rbs 5 hs5 (rbs 9 hs9 (rbs 10 hs10 (cs2 (c_region (lE omi (lE oms (lE omi ?_))))))))
  refine lv (v := .pointer (some ((ba (some ⟨b4,0,none⟩)).add (k * 1)))) (e_indexFlN 2 (F := H3F) rfl (by simp only [List.length_append,List.length_map,List.length_replicate,List.length_cons,List.length_set]; omega) rfl tw79 (by omega) rfl) ?_
  refine lv (v := .slice zq (zn + 64) ze) (e_load1 tw1.ok rfl (k_flAt 2 (F := H3F) rfl hgk)) (lE oln (lE olt (lnf ?_)))
  refine c_if _ rfl (fun hc11 => ?_) (fun hc11 => ?_)
  ·refine csk (c_seq (c_block (c_seq (c_quiet (by kernel_rfl) (by kernel_rfl) (qE oms (qE omi ?_))))))
   refine q_val (v := .pointer (some ((ba (some ⟨b4,0,none⟩)).add (k * 1)))) rfl rfl rfl (e_indexFlN 2 (F := H3F) rfl (by simp only [List.length_append,List.length_map,List.length_replicate,List.length_cons,List.length_set]; omega) rfl tw79 (by omega) rfl) ?_
   refine q_val (v := .slice zq (zn + 64) ze) rfl rfl rfl (e_load1 tw1.ok rfl (k_flAt 2 (F := H3F) rfl hgk)) (qE omi ?_)
   refine q_val (v := .pointer (some ((ba zq).add (i * 5)))) rfl rfl rfl (e_indexFam2F 1 (F := CompF) (j := i) (m := zn + 64) rfl (by rw [mkL_len]; omega) rfl tw3 (by omega) rfl) ?_
   refine q_val (v := .agg #[Bx ((mkC k i).kind),Ix ((mkC k i).v0),Ix ((mkC k i).v1),Ix ((mkC k i).v2),Ix ((mkC k i).v3)]) rfl rfl rfl (e_load tw72.ok rfl (k_fam2F 1 (F := CompF) (j := i) (x := (mkC k i)) rfl (mkL_at (by omega))) rfl) ?_
   refine qE omi (qE omi ?_)
   refine q_call (v := .agg #[Bx ((mkC k i).kind),Ix ((mkC k i).v0),Ix ((mkC k i).v1),Ix ((mkC k i).v2),Ix ((mkC k i).v3)]) rfl rfl rfl (cl0 (vs := [Nx (k),Nx (i)]) tw73.ok rfl rfl) (fun w hw => ?_) ?_
   ·obtain ⟨β1,sb,kn,hw1,back⟩ := St.frame_all hw
    exact (markCk_ok β1 w hw1 k i (by omega) (by omega)).mono (fun e w' ⟨he,hw'⟩ => ⟨he,st_mask [true,true,true] rfl (back _ _ hw')⟩)
   refine q_val (v := .bool (decide ((mkC k i) = (mkC k i)))) rfl rfl rfl (e_eql_t (xs := [Bx ((mkC k i).kind),Ix ((mkC k i).v0),Ix ((mkC k i).v1),Ix ((mkC k i).v2),Ix ((mkC k i).v3)]) (ys := [Bx ((mkC k i).kind),Ix ((mkC k i).v0),Ix ((mkC k i).v1),Ix ((mkC k i).v2),Ix ((mkC k i).v3)]) tw82 tw83 tw84 rfl rfl rfl rfl (comp_eq (x := (mkC k i)) (y := (mkC k i)))) ?_
   refine qE ond (qE omb (q_split (s := 100) rfl (fun h => ?_) (fun h => ?_)))
   exact absurd h (fun h => h rfl)
   refine rE omi (rE oms (rE omi (rE (oia tw79 hxa) (qg_val (v := .slice zp (zn) zc) rfl rfl rfl rfl rfl (e_load1 tw1.ok rfl (kB hxc)) (rE oln ?_)))))
   refine rE olt (rE omb (q_split (s := 108) rfl (fun hg12 => ?_) (fun hg12 => ?_)))
   ·refine rE oms (rE omi (rE (oia tw79 hxa) (qg_val (v := .slice zp (zn) zc) rfl rfl rfl rfl rfl (e_load1 tw1.ok rfl (kB hxc)) (rE omi ?_))))
    refine qg_val (v := .pointer (some ((ba zp).add (i * 5)))) rfl rfl rfl rfl rfl (e_indexFam1F 1 (F := CompF) (j := i) (m := zn) rfl (by rw [mkL_len]; omega) rfl tw3 (by omega) rfl) ?_
    refine qg_val (v := .agg #[Bx ((mkC k i).kind),Ix ((mkC k i).v0),Ix ((mkC k i).v1),Ix ((mkC k i).v2),Ix ((mkC k i).v3)]) rfl rfl rfl rfl rfl (e_load tw72.ok rfl (k_fam1F 1 (F := CompF) (j := i) (x := (mkC k i)) rfl (mkL_at (by omega))) rfl) ?_
    refine rE omi (rE omi ?_)
    refine qg_call (v := .agg #[Bx ((mkC k i).kind),Ix ((mkC k i).v0),Ix ((mkC k i).v1),Ix ((mkC k i).v2),Ix ((mkC k i).v3)]) rfl rfl rfl rfl rfl (cl0 (vs := [Nx (k),Nx (i)]) tw73.ok rfl rfl) (fun w hw => ?_) ?_
    ·obtain ⟨β1,sb,kn,hw1,back⟩ := St.frame_all hw
     exact (markCk_ok β1 w hw1 k i (by omega) (by omega)).mono (fun e w' ⟨he,hw'⟩ => ⟨he,st_mask [true,true,true] rfl (back _ _ hw')⟩)
    refine qg_val (v := .bool (decide ((mkC k i) = (mkC k i)))) rfl rfl rfl rfl rfl (e_eql_t (xs := [Bx ((mkC k i).kind),Ix ((mkC k i).v0),Ix ((mkC k i).v1),Ix ((mkC k i).v2),Ix ((mkC k i).v3)]) (ys := [Bx ((mkC k i).kind),Ix ((mkC k i).v0),Ix ((mkC k i).v1),Ix ((mkC k i).v2),Ix ((mkC k i).v3)]) tw82 tw83 tw84 rfl rfl rfl rfl (comp_eq (x := (mkC k i)) (y := (mkC k i)))) ?_
    refine rE ond (rE oktb (qE okfb (q_nil (f_then (c_if _ rfl (fun hc13 => ?_) (fun hc13 => ?_))))))
    ·exact absurd hc13 (fun h => h rfl)
    refine c_skip (f_block (f_then (c_region (lE omi (lv (v := Nx (i + 1)) (e_add rfl rfl (i64n (by omega) (by omega))) (lE oai (l_nil ?_)))))))
    exact f_cut ⟨i + 1,⟨⟨rfl,rfl,rfl,rfl⟩,rfl,by omega⟩,(show zn + 64 - (i + 1) < zn + 64 - i from by omega)⟩
   iterate 12 refine qsE ?_
   refine rE okfb (qE okfb (q_nil (f_then (c_no rfl (c_skip (f_block (f_then (c_region (lE omi ?_)))))))))
   refine lv (v := Nx (i + 1)) (e_add rfl rfl (i64n (by omega) (by omega))) (lE oai (l_nil ?_))
   exact f_cut ⟨i + 1,⟨⟨rfl,rfl,rfl,rfl⟩,rfl,by omega⟩,(show zn + 64 - (i + 1) < zn + 64 - i from by omega)⟩
  refine c_exit (f_then_exit (f_then_exit (f_exit (f_block (f_then (c_putN k (fromK_at0 _ hzk) rfl ?_))))))
  refine c_re (L' := [Sat (fromK (famK CompF 120 mkC) 0 zs),rowF H3F 57 (some ⟨b4,0,none⟩) HL.length (zs.map gh3)]) rfl (c_region (lE omi ?_))
  refine lv (v := Nx (k + 1)) (e_add rfl rfl (i64n (by omega) (by omega))) (lE oai (l_nil ?_))
  exact f_cut ⟨k + 1,⟨⟨rfl,rfl,rfl⟩,rfl,by omega⟩,(show HL.length - (k + 1) < HL.length - k from by omega)⟩
 refine c_exit (f_then_exit (f_then_exit (f_exit (fts (c_seq (c_emp (r := Sat (fromK (famM CompF 120 mkC HL.length) 0 [])) trivial (c_region ?_)))))))
 refine lE oai (lnf (c_block ?_))
 refine c_loop (fun (x_ : List Z5 × List Z5) f L => match x_ with | (ys,post) => (f 0 = sB lsa HL (lsc) ∧ f 5 = sB (some ⟨b4,0,none⟩) HL HL.length ∧ f 11 = Nx (ys.length)) ∧ L = [Sat (fromK (famM CompF 120 mkC HL.length) 0 ys),Sat (fromK (famK CompF 120 mkC) ys.length post),rowF H3F 57 (some ⟨b4,0,none⟩) HL.length (ys.map gh3 ++ post.map gh3)] ∧ (HL = ys.map Z5.h ++ post.map Z5.h)) (fun (ys,post) => post.length) ([],zs) ?_ ?_
 ·exact ⟨⟨rfl,rfl,rfl⟩,rfl,hz⟩
 rintro ⟨ys,post⟩ f0 L0 ⟨⟨hs0,hs5,hs11⟩,hL,hpp⟩
 subst L0
 refine rbs 0 hs0 (rbs 5 hs5 (rbs 11 hs11 ?_))
 have hlen : HL.length = ys.length + post.length := by rw [hpp,List.length_append,List.length_map,List.length_map]
 refine cs2 (c_region (lE omi (lE oms (lE oln (lE olt (lnf (c_if _ rfl (fun hc14 => ?_) (fun hc14 => ?_))))))))
 ·refine csk (c_seq (c_block (c_seq ?_)))
  obtain ⟨⟨⟨zp,zn,zc⟩,zq,ze⟩,po,hpo⟩ := uncons hlen (by omega)
  have hx : HL[ys.length]? = some (⟨zp,zn,zc⟩ : H3) := by rw [hpp,hpo]; exact mid_at (List.length_map _).symm
  have hxl : zn ≤ 1000000 := hbd0 _ (List.mem_of_getElem? hx)
  obtain ⟨hxa,cs_,hxc,rfl⟩ := lse _ _ hx
  refine c_perm (L' := [Sat (fromK (famK CompF 120 mkC) ys.length post),Sat (fromK (famM CompF 120 mkC HL.length) 0 ys),rowF H3F 57 (some ⟨b4,0,none⟩) HL.length (ys.map gh3 ++ post.map gh3)]) (perm_ix [1,0,2] 3 rfl (by kernel_rfl) (by kernel_rfl)) ?_
  rw [hpo]
  refine c_headR (r := famF CompF 120 zp zc (mkL mkC ys.length zn) zq ze (mkL mkC ys.length (zn + 64))) (Ls := fromK (famK CompF 120 mkC) (ys.length + 1) po) (M := [Sat (fromK (famM CompF 120 mkC HL.length) 0 ys),rowF H3F 57 (some ⟨b4,0,none⟩) HL.length (ys.map gh3 ++ ((⟨(⟨zp,zn,zc⟩ : H3),zq,ze⟩ : Z5) :: po).map gh3)]) rfl ?_
  have hpl : post.length = po.length + 1 := by rw [hpo]; rfl
  refine c_region ?_
  refine l_mv rfl rfl rfl (m_makeFl (F := CompF) (x0 := (⟨0,0,0,0,0⟩ : KComp)) (c := 64) tw3 tw49 tw69.ok rfl rfl rfl (by unfold maxLen; omega) (by omega)) ?_
  rintro _ _ ⟨b15,rfl,rfl⟩
  refine lE oas (lnf (cs2 (c_region (lE oai (lnf (c_block ?_))))))
  refine c_loop (fun (i : Nat) f L => (f 0 = sB lsa HL (lsc) ∧ f 5 = sB (some ⟨b4,0,none⟩) HL HL.length ∧ f 11 = Nx (ys.length) ∧ f 12 = .slice (some ⟨b15,0,none⟩) (64) 64 ∧ f 13 = Nx (i)) ∧ L = [rowF CompF 120 (some ⟨b15,0,none⟩) 64 ((mkL mkC (ys.length + HL.length) i) ++ (List.replicate 64 (⟨0,0,0,0,0⟩ : KComp)).drop i),Sat (fromK (famK CompF 120 mkC) (ys.length + 1) po),famF CompF 120 zp zc (mkL mkC ys.length zn) zq ze (mkL mkC ys.length (zn + 64)),Sat (fromK (famM CompF 120 mkC HL.length) 0 ys),rowF H3F 57 (some ⟨b4,0,none⟩) HL.length (ys.map gh3 ++ ((⟨(⟨zp,zn,zc⟩ : H3),zq,ze⟩ : Z5) :: po).map gh3)] ∧ (i ≤ 64)) (fun i => 64 - i) 0 ?_ ?_
  ·exact ⟨⟨rfl,rfl,rfl,rfl,rfl⟩,by rw [mkp_zero],by omega⟩
  rintro i f0 L0 ⟨⟨hs0,hs5,hs11,hs12,hs13⟩,hL,hi⟩
  subst L0
  refine rbs 0 hs0 (rbs 5 hs5 (rbs 11 hs11 (rbs 12 hs12 (rbs 13 hs13 (cs2 (c_region (lE omi (lE olt (lnf (c_if _ rfl (fun hc16 => ?_) (fun hc16 => ?_)))))))))))
  ·refine csk (c_seq (c_block (c_region (lE oms (lE omi (lE omi (lE oms (lE oln (lE opn (lE omi ?_))))))))))
   refine lcR clA (fun w β1 sb kn hw1 => markCk_ok β1 w hw1 (ys.length + HL.length) i (by omega) (by omega)) ?_
   refine lv (v := .pointer (some ((ba (some ⟨b15,0,none⟩)).add (i * 5)))) (e_indexFlN 0 (F := CompF) rfl (by rw [mkp_len (by rw [List.length_replicate]; omega),List.length_replicate]) rfl tw3 (by omega) rfl) ?_
   refine lu (m_storeFl 0 (F := CompF) (p := (some ⟨b15,0,none⟩)) (k := i) (xs := ((mkL mkC (ys.length + HL.length) i) ++ (List.replicate 64 (⟨0,0,0,0,0⟩ : KComp)).drop i)) (z := (mkC (ys.length + HL.length) i)) tw72.ok rfl rfl rfl rfl (by rw [mkp_len (by first | omega | (rw [List.length_replicate]; omega))]; (try rw [List.length_replicate]); omega)) ?_
   refine l_nil (f_block (f_then (c_region (lE omi (lv (v := Nx (i + 1)) (e_add rfl rfl (i64n (by omega) (by omega))) (lE oai (l_nil ?_)))))))
   exact f_cut ⟨i + 1,⟨⟨rfl,rfl,rfl,rfl,rfl⟩,by rw [mkp_step (by rw [List.length_replicate]; omega)] <;> rfl,by omega⟩,(show 64 - (i + 1) < 64 - i from by omega)⟩
  refine c_exit (f_then_exit (f_then_exit (f_exit (f_then ?_))))
  obtain rfl : i = 64 := by omega
  rw [mkp_done (by rw [List.length_replicate]; omega)]
  refine c_conseq 2 (r' := famF CompF 120 zp zc (mkL mkC ys.length zn) zp zc (mkL mkC ys.length zn)) rfl (fun a h => famF_start a (famF_first a h)) ?_
  refine c_region (lE oms (lE omi (lE oms (lE omi (lE (oia tw79 hxa) (lv (v := .slice zp (zn) zc) (e_load1 tw1.ok rfl (kB hxc)) (lE oms ?_)))))))
  refine l_mv rfl rfl rfl (m_append_famF (F := CompF) 2 tw3 tw49 (q := zp) (m := zn) (e := zc) (zs := (mkL mkC (ys.length + HL.length) 64)) (ad := ⟨b15,0,none⟩) (k := 64) (cc := 64) rfl rfl (mkL_len _ _).symm rfl (mkL_len _ _) (k_rowF_all (p := (some ⟨b15,0,none⟩)) 0 rfl (by rw [mkL_len]; omega)) (by omega) (by unfold maxLen; omega) (by omega)) ?_
  rintro _ _ ⟨rp17,rc18,rfl,rfl⟩
  refine lv (v := .pointer (some ((ba (some ⟨b4,0,none⟩)).add (ys.length * 1)))) (e_indexFlN 4 (F := H3F) rfl (by simp only [List.length_append,List.length_map,List.length_replicate,List.length_cons,List.length_set]; omega) rfl tw79 (by omega) rfl) ?_
  refine lu (m_storeFl 4 (F := H3F) (p := (some ⟨b4,0,none⟩)) (k := ys.length) (xs := (ys.map gh3 ++ ((⟨(⟨zp,zn,zc⟩ : H3),zq,ze⟩ : Z5) :: po).map gh3)) (z := (⟨rp17,zn + 64,rc18⟩ : H3)) tw1.ok rfl rfl rfl rfl (by simp only [List.length_append,List.length_map,List.length_replicate,List.length_cons]; omega)) ?_
  refine l_nil (f_block (f_then ?_))
  obtain ⟨q,hq_⟩ : ∃ z_,z_ = rp17 := ⟨_,rfl⟩
  obtain ⟨e,he_⟩ : ∃ z_,z_ = rc18 := ⟨_,rfl⟩
  rw [← hq_,← he_]
  refine c_perm (L' := [Sat (fromK (famM CompF 120 mkC HL.length) 0 ys),famF CompF 120 zp zc (mkL mkC ys.length zn) q e ((mkL mkC ys.length zn) ++ (mkL mkC (ys.length + HL.length) 64)),rowF CompF 120 (some ⟨b15,0,none⟩) 64 (mkL mkC (ys.length + HL.length) 64),Sat (fromK (famK CompF 120 mkC) (ys.length + 1) po),rowF H3F 57 (some ⟨b4,0,none⟩) HL.length ((ys.map gh3 ++ ((⟨(⟨zp,zn,zc⟩ : H3),zq,ze⟩ : Z5) :: po).map gh3).set ys.length (⟨q,zn + 64,e⟩ : H3))]) (perm_ix [3,2,0,1,4] 5 rfl (by kernel_rfl) (by kernel_rfl)) ?_
  refine c_re (L' := [Sat (fromK (famM CompF 120 mkC HL.length) 0 ys),famF CompF 120 zp zc (mkL mkC ys.length zn) q e ((mkL mkC ys.length zn) ++ (mkL mkC (ys.length + HL.length) 64)),rowF CompF 120 (some ⟨b15,0,none⟩) 64 (mkL mkC (ys.length + HL.length) 64),Sat (fromK (famK CompF 120 mkC) (ys.length + 1) po),rowF H3F 57 (some ⟨b4,0,none⟩) HL.length ((ys ++ [(⟨(⟨zp,zn,zc⟩ : H3),q,e⟩ : Z5)]).map gh3 ++ po.map gh3)]) (by rw [← gs_set2]; rfl) ?_
  refine c_snocR (Ls' := fromK (famM CompF 120 mkC HL.length) 0 (ys ++ [(⟨(⟨zp,zn,zc⟩ : H3),q,e⟩ : Z5)])) (M := [rowF CompF 120 (some ⟨b15,0,none⟩) 64 (mkL mkC (ys.length + HL.length) 64),Sat (fromK (famK CompF 120 mkC) (ys.length + 1) po),rowF H3F 57 (some ⟨b4,0,none⟩) HL.length ((ys ++ [(⟨(⟨zp,zn,zc⟩ : H3),q,e⟩ : Z5)]).map gh3 ++ po.map gh3)]) rfl (snocK (famM CompF 120 mkC HL.length) (⟨(⟨zp,zn,zc⟩ : H3),q,e⟩ : Z5) ys) ?_
  refine c_mask [true,false,true,true] rfl (c_region (lE omi (lv (v := Nx (ys.length + 1)) (e_add rfl rfl (i64n (by omega) (by omega))) (lE oai ?_))))
  refine l_nil ?_
  exact f_cut ⟨((ys ++ [⟨(⟨zp,zn,zc⟩ : H3),q,e⟩]),po),⟨⟨rfl,rfl,congrArg (fun z : Nat => Nx z) (by rw [List.length_append]; rfl)⟩,by rw [List.length_append] <;> rfl,by rw [hpp,hpo,List.map_append,List.append_assoc]; rfl⟩,(Nat.lt_succ_self po.length)⟩
 refine c_exit (f_then_exit (f_then_exit (f_exit (fts (c_seq ?_)))))
 have hlen : HL.length = ys.length + post.length := by rw [hpp,List.length_append,List.length_map,List.length_map]
 obtain rfl := unnil hlen (by omega)
 have hy : HL = ys.map Z5.h := by rw [hpp,List.map_nil,List.append_nil]
 have hyl : ys.length = HL.length := by rw [hy,List.length_map]
 refine c_re (L' := [Sat (fromK (famM CompF 120 mkC HL.length) 0 ys),Sat (fromK (famK CompF 120 mkC) ys.length ([] : List Z5)),rowF H3F 57 (some ⟨b4,0,none⟩) HL.length (ys.map gh3)]) (by rw [List.map_nil,List.append_nil]) ?_
 refine c_mask [true,false,true] rfl (c_region (lE oai (lnf (c_block ?_))))
 refine c_loop (fun (k : Nat) f L => (f 0 = sB lsa HL (lsc) ∧ f 5 = sB (some ⟨b4,0,none⟩) HL HL.length ∧ f 14 = Nx (k)) ∧ L = [Sat (fromK (famM CompF 120 mkC HL.length) 0 ys),rowF H3F 57 (some ⟨b4,0,none⟩) HL.length (ys.map gh3)] ∧ (k ≤ HL.length)) (fun k => HL.length - k) 0 ?_ ?_
 ·exact ⟨⟨rfl,rfl,rfl⟩,rfl,by omega⟩
 rintro k f0 L0 ⟨⟨hs0,hs5,hs14⟩,hL,hk⟩
 subst L0
 refine rbs 0 hs0 (rbs 5 hs5 (rbs 14 hs14 (cs2 (c_region (lE omi (lE oms (lE oln (lE olt (lnf (c_if _ rfl (fun hc19 => ?_) (fun hc19 => ?_)))))))))))
 ·refine csk (c_seq (c_block (c_seq ?_)))
  obtain ⟨⟨⟨zp,zn,zc⟩,zq,ze⟩,hzk⟩ : ∃ z_,ys[k]? = some z_ := ⟨_,List.getElem?_eq_getElem (by omega)⟩
  have hx : HL[k]? = some (⟨zp,zn,zc⟩ : H3) := by rw [hy,List.getElem?_map,hzk]; rfl
  have hxl : zn ≤ 1000000 := hbd0 _ (List.mem_of_getElem? hx)
  have hgk : (ys.map gh3)[k]? = some (⟨zq,zn + 64,ze⟩ : H3) := by rw [List.getElem?_map,hzk]; rfl
  obtain ⟨hxa,cs_,hxc,rfl⟩ := lse _ _ hx
  refine c_takeN k (r := famF CompF 120 zp zc (mkL mkC k zn) zq ze ((mkL mkC k zn) ++ (mkL mkC (k + HL.length) 64))) (fromK_at0 _ hzk) rfl (c_region ?_)
  refine lE oai (lnf (c_block ?_))
  refine c_loop (fun (i : Nat) f L => (f 0 = sB lsa HL (lsc) ∧ f 5 = sB (some ⟨b4,0,none⟩) HL HL.length ∧ f 14 = Nx (k) ∧ f 15 = Nx (i)) ∧ L = [Sat ((fromK (famM CompF 120 mkC HL.length) 0 ys).eraseIdx k),famF CompF 120 zp zc (mkL mkC k zn) zq ze ((mkL mkC k zn) ++ (mkL mkC (k + HL.length) 64)),rowF H3F 57 (some ⟨b4,0,none⟩) HL.length (ys.map gh3)] ∧ (i ≤ zn)) (fun i => zn - i) 0 ?_ ?_
  ·exact ⟨⟨rfl,rfl,rfl,rfl⟩,rfl,by omega⟩
  rintro i f0 L0 ⟨⟨hs0,hs5,hs14,hs15⟩,hL,hi⟩
  subst L0
  refine rbs 0 hs0 (rbs 5 hs5 (rbs 14 hs14 (rbs 15 hs15 (cs2 (c_region (lE omi (lE oms (lE omi (lE (oia tw79 hxa) ?_)))))))))
  refine lv (v := .slice zp (zn) zc) (e_load1 tw1.ok rfl (kB hxc)) (lE oln (lE olt (lnf (c_if _ rfl (fun hc20 => ?_) (fun hc20 => ?_)))))
  ·refine csk (c_seq (c_block (c_seq (c_quiet (by kernel_rfl) (by kernel_rfl) (qE oms (qE omi (qE (oia tw79 hxa) ?_)))))))
   refine q_val (v := .slice zp (zn) zc) rfl rfl rfl (e_load1 tw1.ok rfl (kB hxc)) (qE omi ?_)
   refine q_val (v := .pointer (some ((ba zp).add (i * 5)))) rfl rfl rfl (e_indexFam1F 1 (F := CompF) (j := i) (m := zn) rfl (by rw [mkL_len]; omega) rfl tw3 (by omega) rfl) ?_
   refine q_val (v := .agg #[Bx ((mkC k i).kind),Ix ((mkC k i).v0),Ix ((mkC k i).v1),Ix ((mkC k i).v2),Ix ((mkC k i).v3)]) rfl rfl rfl (e_load tw72.ok rfl (k_fam1F 1 (F := CompF) (j := i) (x := (mkC k i)) rfl (mkL_at (by omega))) rfl) ?_
   refine qE omi (qE omi ?_)
   refine q_call (v := .agg #[Bx ((mkC k i).kind),Ix ((mkC k i).v0),Ix ((mkC k i).v1),Ix ((mkC k i).v2),Ix ((mkC k i).v3)]) rfl rfl rfl (cl0 (vs := [Nx (k),Nx (i)]) tw73.ok rfl rfl) (fun w hw => ?_) ?_
   ·obtain ⟨β1,sb,kn,hw1,back⟩ := St.frame_all hw
    exact (markCk_ok β1 w hw1 k i (by omega) (by omega)).mono (fun e w' ⟨he,hw'⟩ => ⟨he,st_mask [true,true,true] rfl (back _ _ hw')⟩)
   refine q_val (v := .bool (decide ((mkC k i) = (mkC k i)))) rfl rfl rfl (e_eql_t (xs := [Bx ((mkC k i).kind),Ix ((mkC k i).v0),Ix ((mkC k i).v1),Ix ((mkC k i).v2),Ix ((mkC k i).v3)]) (ys := [Bx ((mkC k i).kind),Ix ((mkC k i).v0),Ix ((mkC k i).v1),Ix ((mkC k i).v2),Ix ((mkC k i).v3)]) tw82 tw83 tw84 rfl rfl rfl rfl (comp_eq (x := (mkC k i)) (y := (mkC k i)))) ?_
   refine qE ond (qE omb (q_split (s := 179) rfl (fun h => ?_) (fun h => ?_)))
   exact absurd h (fun h => h rfl)
   refine rE oms (rE omi ?_)
   refine qg_val (v := .pointer (some ((ba (some ⟨b4,0,none⟩)).add (k * 1)))) rfl rfl rfl rfl rfl (e_indexFlN 2 (F := H3F) rfl (by simp only [List.length_append,List.length_map,List.length_replicate,List.length_cons,List.length_set]; omega) rfl tw79 (by omega) rfl) ?_
   refine qg_val (v := .slice zq (zn + 64) ze) rfl rfl rfl rfl rfl (e_load1 tw1.ok rfl (k_flAt 2 (F := H3F) rfl hgk)) (rE omi ?_)
   refine qg_val (v := .pointer (some ((ba zq).add (i * 5)))) rfl rfl rfl rfl rfl (e_indexFam2F 1 (F := CompF) (j := i) (m := zn + 64) rfl (by rw [List.length_append,mkL_len,mkL_len]; omega) rfl tw3 (by omega) rfl) ?_
   refine qg_val (v := .agg #[Bx ((mkC k i).kind),Ix ((mkC k i).v0),Ix ((mkC k i).v1),Ix ((mkC k i).v2),Ix ((mkC k i).v3)]) rfl rfl rfl rfl rfl (e_load tw72.ok rfl (k_fam2F 1 (F := CompF) (j := i) (x := (mkC k i)) rfl (mkL_at2 (by omega))) rfl) ?_
   refine rE omi (rE omi ?_)
   refine qg_call (v := .agg #[Bx ((mkC k i).kind),Ix ((mkC k i).v0),Ix ((mkC k i).v1),Ix ((mkC k i).v2),Ix ((mkC k i).v3)]) rfl rfl rfl rfl rfl (cl0 (vs := [Nx (k),Nx (i)]) tw73.ok rfl rfl) (fun w hw => ?_) ?_
   ·obtain ⟨β1,sb,kn,hw1,back⟩ := St.frame_all hw
    exact (markCk_ok β1 w hw1 k i (by omega) (by omega)).mono (fun e w' ⟨he,hw'⟩ => ⟨he,st_mask [true,true,true] rfl (back _ _ hw')⟩)
   refine qg_val (v := .bool (decide ((mkC k i) = (mkC k i)))) rfl rfl rfl rfl rfl (e_eql_t (xs := [Bx ((mkC k i).kind),Ix ((mkC k i).v0),Ix ((mkC k i).v1),Ix ((mkC k i).v2),Ix ((mkC k i).v3)]) (ys := [Bx ((mkC k i).kind),Ix ((mkC k i).v0),Ix ((mkC k i).v1),Ix ((mkC k i).v2),Ix ((mkC k i).v3)]) tw82 tw83 tw84 rfl rfl rfl rfl (comp_eq (x := (mkC k i)) (y := (mkC k i)))) ?_
   refine rE ond (qE okfb (q_nil (f_then (c_if _ rfl (fun hc21 => ?_) (fun hc21 => ?_)))))
   ·exact absurd hc21 (fun h => h rfl)
   refine c_skip (f_block (f_then (c_region (lE omi (lv (v := Nx (i + 1)) (e_add rfl rfl (i64n (by omega) (by omega))) (lE oai (l_nil ?_)))))))
   exact f_cut ⟨i + 1,⟨⟨rfl,rfl,rfl,rfl⟩,rfl,by omega⟩,(show zn - (i + 1) < zn - i from by omega)⟩
  refine c_exit (f_then_exit (f_then_exit (f_exit (f_block (f_then (c_putN k (fromK_at0 _ hzk) rfl ?_))))))
  refine c_re (L' := [Sat (fromK (famM CompF 120 mkC HL.length) 0 ys),rowF H3F 57 (some ⟨b4,0,none⟩) HL.length (ys.map gh3)]) rfl (c_region (lE omi ?_))
  refine lv (v := Nx (k + 1)) (e_add rfl rfl (i64n (by omega) (by omega))) (lE oai (l_nil ?_))
  exact f_cut ⟨k + 1,⟨⟨rfl,rfl,rfl⟩,rfl,by omega⟩,(show HL.length - (k + 1) < HL.length - k from by omega)⟩
 refine c_exit (f_then_exit (f_then_exit (f_exit (ftc (lE oab (lnf (c_ret (ret1 Tryz.results124 rfl ?_))))))))
 intro w hw
 exact ⟨rfl,st_mask [false,false] rfl hw⟩
theorem sameEk_ok (β : Base) (w : World) (hw : St β [] w) (k i : Nat) : Calls Tryz.prog 113 #[.agg #[Ix ((mkHd k i).id), .slice ((mkHd k i).p) ((mkHd k i).n) ((mkHd k i).c)], .agg #[Ix ((mkHd k i).id), .slice ((mkHd k i).p) ((mkHd k i).n) ((mkHd k i).c)]] w fun r w' => r = .returned (.bool true) ∧ St β [] w' := (sameEntity_ok β w hw ⟨markN (k : Nat) (i : Nat), []⟩ ⟨markN (k : Nat) (i : Nat), []⟩ (.slice none 0 0) (.slice none 0 0) (Sl.nil _ _) (Sl.nil _ _)).mono fun r w' ⟨h1, h2⟩ => ⟨by rw [h1, decide_eq_true rfl], h2⟩
theorem sameWk_ok (β : Base) (w : World) (hw : St β [] w) (k i : Nat) : Calls Tryz.prog 21 #[.agg #[Ix ((mkWd k i).tick), .slice ((mkWd k i).p) ((mkWd k i).n) ((mkWd k i).c)], .agg #[Ix ((mkWd k i).tick), .slice ((mkWd k i).p) ((mkWd k i).n) ((mkWd k i).c)]] w fun r w' => r = .returned (.bool true) ∧ St β [] w' := (sameWorld_ok β w hw ⟨markN (k : Nat) (i : Nat), []⟩ ⟨markN (k : Nat) (i : Nat), []⟩ (.slice none 0 0) (.slice none 0 0) (Sl.nil _ _) (Sl.nil _ _)).mono fun r w' ⟨h1, h2⟩ => ⟨by rw [h1, decide_eq_true rfl], h2⟩
set_option maxHeartbeats 4000000 in
theorem flatE_ok (β : Base) (w : World) (v : Value) (HL : List H3) (hv : List (HV KHd)) (hhs : HL = hv.map HV.h) (hls : Sl H3F.R β.heap v HL) (hn : HL.length ≤ 1000) (hbd : ∀ v ∈ hv, v.xs.length ≤ 1000000) (hw : St β [Sat (hv.map (ownV HdF 59))] w) : Ret Tryz.prog 125 #[v] β w (.bool true) := by
 have hbd0 : ∀ h ∈ HL,h.n ≤ 1000000 := fun h hh => by rw [hhs] at hh; obtain ⟨v,hv_,rfl⟩ := List.mem_map.1 hh; exact hbd v hv_
 obtain ⟨lsa,lsc,rfl,lsl,lsm,lse⟩ := hls.get
 refine enter (n := 193) Tryz.func125 rfl Tryz.ntmps125 rfl ?_ hw
 refine csr (lE oab (lnf (cs2 (c_emp (r := Sat (fromK (rowK HdF 59 mkHd) 0 [])) trivial (c_region (lE oai (lnf (c_block ?_))))))))
 refine c_loop (fun (x_ : List H3 × List (HV KHd)) f L => match x_ with | (pre,post) => (f 0 = sB lsa HL (lsc) ∧ f 3 = Nx (pre.length)) ∧ L = [Sat (fromK (rowK HdF 59 mkHd) 0 pre),Sat (post.map (ownV HdF 59))] ∧ (HL = pre ++ post.map HV.h ∧ ∀ v ∈ post,v.xs.length ≤ 1000000)) (fun (pre,post) => post.length) ([],hv) ?_ ?_
 ·exact ⟨⟨rfl,rfl⟩,rfl,⟨hhs,hbd⟩⟩
 rintro ⟨pre,post⟩ f0 L0 ⟨⟨hs0,hs3⟩,hL,⟨hpp,hbp⟩⟩
 subst L0
 refine rbs 0 hs0 (rbs 3 hs3 ?_)
 have hlen : HL.length = pre.length + post.length := by rw [hpp,List.length_append,List.length_map]
 refine cs2 (c_region (lE omi (lE oms (lE oln (lE olt (lnf (c_if _ rfl (fun hc1 => ?_) (fun hc1 => ?_))))))))
 ·refine csk (c_seq (c_block (c_seq ?_)))
  obtain ⟨⟨xp,xc,xs⟩,po,hpo⟩ := uncons hlen (by omega)
  have hx : HL[pre.length]? = some (⟨xp,xs.length,xc⟩ : H3) := by rw [hpp,hpo]; exact mid_at rfl
  have hxl : xs.length ≤ 1000000 := hbp ⟨xp,xc,xs⟩ (by rw [hpo]; exact List.mem_cons_self)
  obtain ⟨hxa,cs_,hxc,rfl⟩ := lse _ _ hx
  refine c_perm (L' := [Sat (post.map (ownV HdF 59)),Sat (fromK (rowK HdF 59 mkHd) 0 pre)]) (perm_ix [1,0] 2 rfl (by kernel_rfl) (by kernel_rfl)) ?_
  rw [hpo]
  refine c_headR (r := rowF HdF 59 xp xc xs) (Ls := po.map (ownV HdF 59)) (M := [Sat (fromK (rowK HdF 59 mkHd) 0 pre)]) rfl (c_region (lE oai (lnf ?_)))
  refine c_block ?_
  refine c_loop (fun (i : Nat) f L => (f 0 = sB lsa HL (lsc) ∧ f 3 = Nx (pre.length) ∧ f 4 = Nx (i)) ∧ L = [Sat (po.map (ownV HdF 59)),rowF HdF 59 xp xc ((mkL mkHd pre.length i) ++ xs.drop i),Sat (fromK (rowK HdF 59 mkHd) 0 pre)] ∧ (i ≤ xs.length)) (fun i => xs.length - i) 0 ?_ ?_
  ·exact ⟨⟨rfl,rfl,rfl⟩,by rw [mkp_zero],by omega⟩
  rintro i f0 L0 ⟨⟨hs0,hs3,hs4⟩,hL,hi⟩
  subst L0
  refine rbs 0 hs0 (rbs 3 hs3 (rbs 4 hs4 (cs2 (c_region (lE omi (lE oms (lE omi (lE (oia tw86 hxa) ?_))))))))
  refine lv (v := sB xp xs xc) (e_load1 tw27.ok rfl (kB hxc)) (lE oln (lE olt (lnf (c_if _ rfl (fun hc2 => ?_) (fun hc2 => ?_)))))
  ·refine csk (c_seq (c_block ?_))
   refine cny [sv 31 (sB lsa HL (lsc)) [] [] [0],sv 32 (Nx (pre.length)) [] [] [1],sv 33 (.pointer (some ((ba lsa).add (pre.length * 1)))) [0,1] [0,1] [],sv 34 (sB xp xs xc) [0,1,2] [2] [],sv 35 (Nx (i)) [] [] [2],sv 36 (Nx (pre.length)) [] [] [1],sv 37 (Nx (i)) [] [] [2],sv 38 (.agg #[Ix ((mkHd pre.length i).id),.slice ((mkHd pre.length i).p) ((mkHd pre.length i).n) ((mkHd pre.length i).c)]) [5,6] [5,6] [],sv 39 (.pointer (some ((ba xp).add (i * 2)))) (List.range 8) [3,4] [],⟨(List.range 9),[8,7],[],[],fun _ => True⟩] [tk (Sat (po.map (ownV HdF 59))) [],⟨none,(some 9),[8,9],[],fun _ => rowF HdF 59 xp xc ((mkL mkHd pre.length i) ++ xs.drop i)⟩,tk (Sat (fromK (rowK HdF 59 mkHd) 0 pre)) [],⟨(some 9),none,[],[],fun _ => rowF HdF 59 xp xc (((mkL mkHd pre.length i) ++ xs.drop i).set i (mkHd pre.length i))⟩] [(0,sB lsa HL (lsc)),(3,Nx (pre.length)),(4,Nx (i))] [0,1,2] [] ⟨rfl,rfl,rfl,trivial⟩ ⟨?_,?_,?_,?_,?_,?_,?_,?_,?_,?_,trivial⟩ ?_
   ·rintro f M - ⟨i0,-⟩
    exact obE oms
   ·rintro f M - ⟨i0,-⟩
    exact obE omi
   ·rintro f M ⟨k0,k1,-⟩ -
    exact ob0 (up_cons (d := 32) (up_cons (d := 31) rfl k0) k1) rfl (e_indexAddr rfl rfl tw86 (by omega) hxa) (.refl _)
   ·rintro f M ⟨k0,-⟩ -
    exact ob0 (up_cons (d := 33) rfl k0) rfl (e_load1 tw27.ok rfl (kB hxc)) (.refl _)
   ·rintro f M - ⟨i0,-⟩
    exact obE omi
   ·rintro f M - ⟨i0,-⟩
    exact obE omi
   ·rintro f M - ⟨i0,-⟩
    exact obE omi
   ·rintro f M ⟨k0,k1,-⟩ -
    refine ob_start (L' := M) (by rfl) (up_cons (d := 37) (up_cons (d := 36) rfl k0) k1) ?_
    refine lcR clA (fun w β1 sb kn hw1 => markEk_ok β1 w hw1 pre.length i (by omega) (by omega)) (l_nil ?_)
    exact f_owes_d (up_cons (d := 37) (up_cons (d := 36) rfl k0) k1) rfl (List.Perm.refl _)
   ·rintro f M ⟨k0,k1,-⟩ -
    exact obv (L' := rowF HdF 59 xp xc ((mkL mkHd pre.length i) ++ xs.drop i) :: M) (up_cons (d := 35) (up_cons (d := 34) rfl k0) k1) rfl (e_indexFlN 0 (F := HdF) (j := i) (m := xs.length) (xs := ((mkL mkHd pre.length i) ++ xs.drop i)) rfl (mkp_len (by omega)).symm rfl tw29 (by omega) rfl) (perm_front 0 rfl) (by rfl)
   ·rintro f M ⟨k0,k1,-⟩ -
    refine ob_start (L' := rowF HdF 59 xp xc ((mkL mkHd pre.length i) ++ xs.drop i) :: M) (by rfl) (up_cons (d := 38) (up_cons (d := 39) rfl k0) k1) ?_
    refine lu (m_storeFl 0 (F := HdF) (p := xp) (k := i) (xs := ((mkL mkHd pre.length i) ++ xs.drop i)) (z := (mkHd pre.length i)) tw7.ok rfl rfl rfl rfl (by rw [mkp_len (by first | omega | (rw [List.length_replicate]; omega))]; (try rw [List.length_replicate]); omega)) ?_
    refine l_nil ?_
    exact f_owes_n (up_cons (d := 38) (up_cons (d := 39) rfl k0) k1) trivial (perm_front 0 rfl)
   rintro fa3 ⟨-,-,-,-,-,-,-,-,-,-,-⟩ ⟨j0,j1,j2,-⟩
   refine f_re (L' := [Sat (po.map (ownV HdF 59)),Sat (fromK (rowK HdF 59 mkHd) 0 pre),rowF HdF 59 xp xc (((mkL mkHd pre.length i) ++ xs.drop i).set i (mkHd pre.length i))]) (by rfl) ?_
   refine f_rebase (d := 0) j0 (f_rebase (d := 3) j1 (f_rebase (d := 4) j2 (f_block (f_then (c_region (lE omi ?_))))))
   refine lv (v := Nx (i + 1)) (e_add rfl rfl (i64n (by omega) (by omega))) (lE oai (l_nil ?_))
   refine f_perm (L' := [Sat (po.map (ownV HdF 59)),rowF HdF 59 xp xc (((mkL mkHd pre.length i) ++ xs.drop i).set i (mkHd pre.length i)),Sat (fromK (rowK HdF 59 mkHd) 0 pre)]) (perm_ix [0,2,1] 3 rfl (by kernel_rfl) (by kernel_rfl)) ?_
   exact f_cut ⟨i + 1,⟨⟨rfl,rfl,rfl⟩,by rw [mkp_step (by omega)],by omega⟩,(show xs.length - (i + 1) < xs.length - i from by omega)⟩
  refine c_exit (f_then_exit (f_then_exit (f_exit (f_block (f_then ?_)))))
  obtain rfl : i = xs.length := by omega
  rw [mkp_done (Nat.le_refl _)]
  refine c_perm (L' := [Sat (fromK (rowK HdF 59 mkHd) 0 pre),rowF HdF 59 xp xc (mkL mkHd pre.length xs.length),Sat (po.map (ownV HdF 59))]) (perm_ix [2,1,0] 3 rfl (by kernel_rfl) (by kernel_rfl)) ?_
  refine c_snocR (Ls' := fromK (rowK HdF 59 mkHd) 0 (pre ++ [(⟨xp,xs.length,xc⟩ : H3)])) (M := [Sat (po.map (ownV HdF 59))]) rfl (snocK (rowK HdF 59 mkHd) (⟨xp,xs.length,xc⟩ : H3) pre) ?_
  refine c_region (lE omi (lv (v := Nx (pre.length + 1)) (e_add rfl rfl (i64n (by omega) (by omega))) (lE oai (l_nil ?_))))
  exact f_cut ⟨((pre ++ [(⟨xp,xs.length,xc⟩ : H3)]),po),⟨⟨rfl,congrArg (fun z : Nat => Nx z) (by rw [List.length_append]; rfl)⟩,rfl,⟨by rw [hpp,hpo,List.append_assoc]; rfl,fun v hv => hbp v (by rw [hpo]; exact List.mem_cons_of_mem _ hv)⟩⟩,(Nat.lt_succ_self po.length)⟩
 refine c_exit (f_then_exit (f_then_exit (f_exit (fts ?_))))
 have hlen : HL.length = pre.length + post.length := by rw [hpp,List.length_append,List.length_map]
 obtain rfl := unnil hlen (by omega)
 obtain rfl : HL = pre := by rw [hpp,List.map_nil,List.append_nil]
 refine c_mask [true,false] rfl (c_region (lE oms (lE oln ?_)))
 refine l_mv rfl rfl rfl (m_makeFl (F := H3F) (x0 := (⟨none,0,0⟩ : H3)) (c := HL.length) tw86 tw87 tw88.ok rfl rfl rfl (by unfold maxLen; omega) (by omega)) ?_
 rintro _ _ ⟨b4,rfl,rfl⟩
 refine lE oas (lnf (cs2 (c_emp (r := Sat (fromK (famK HdF 59 mkHd) 0 [])) trivial ?_)))
 refine c_perm (L' := [Sat (fromK (famK HdF 59 mkHd) 0 []),Sat (fromK (rowK HdF 59 mkHd) 0 HL),rowF H3F 22 (some ⟨b4,0,none⟩) HL.length (List.replicate HL.length (⟨none,0,0⟩ : H3))]) (perm_ix [0,2,1] 3 rfl (by kernel_rfl) (by kernel_rfl)) ?_
 refine c_region (lE oai (lnf (c_block ?_)))
 refine c_loop (fun (x_ : List Z5 × List H3) f L => match x_ with | (zs,post) => (f 0 = sB lsa HL (lsc) ∧ f 5 = sB (some ⟨b4,0,none⟩) HL HL.length ∧ f 6 = Nx (zs.length)) ∧ L = [Sat (fromK (famK HdF 59 mkHd) 0 zs),Sat (fromK (rowK HdF 59 mkHd) zs.length post),rowF H3F 22 (some ⟨b4,0,none⟩) HL.length (zs.map gh3 ++ List.replicate post.length (⟨none,0,0⟩ : H3))] ∧ (HL = zs.map Z5.h ++ post)) (fun (zs,post) => post.length) ([],HL) ?_ ?_
 ·exact ⟨⟨rfl,rfl,rfl⟩,rfl,rfl⟩
 rintro ⟨zs,post⟩ f0 L0 ⟨⟨hs0,hs5,hs6⟩,hL,hpp⟩
 subst L0
 refine rbs 0 hs0 (rbs 5 hs5 (rbs 6 hs6 ?_))
 have hlen : HL.length = zs.length + post.length := by rw [hpp,List.length_append,List.length_map]
 refine cs2 (c_region (lE omi (lE oms (lE oln (lE olt (lnf (c_if _ rfl (fun hc5 => ?_) (fun hc5 => ?_))))))))
 ·refine csk (c_seq (c_block (c_seq ?_)))
  obtain ⟨⟨xp,xn,xc⟩,po,hpo⟩ := uncons hlen (by omega)
  have hx : HL[zs.length]? = some (⟨xp,xn,xc⟩ : H3) := by rw [hpp,hpo]; exact mid_at (List.length_map _).symm
  have hxl : xn ≤ 1000000 := hbd0 _ (List.mem_of_getElem? hx)
  obtain ⟨hxa,cs_,hxc,rfl⟩ := lse _ _ hx
  refine c_perm (L' := [Sat (fromK (rowK HdF 59 mkHd) zs.length post),Sat (fromK (famK HdF 59 mkHd) 0 zs),rowF H3F 22 (some ⟨b4,0,none⟩) HL.length (zs.map gh3 ++ List.replicate post.length (⟨none,0,0⟩ : H3))]) (perm_ix [1,0,2] 3 rfl (by kernel_rfl) (by kernel_rfl)) ?_
  rw [hpo]
  refine c_headR (r := rowF HdF 59 xp xc (mkL mkHd zs.length xn)) (Ls := fromK (rowK HdF 59 mkHd) (zs.length + 1) po) (M := [Sat (fromK (famK HdF 59 mkHd) 0 zs),rowF H3F 22 (some ⟨b4,0,none⟩) HL.length (zs.map gh3 ++ (⟨none,0,0⟩ : H3) :: List.replicate po.length (⟨none,0,0⟩ : H3))]) rfl ?_
  have hpl : post.length = po.length + 1 := by rw [hpo]; rfl
  refine c_region (lE oms (lE omi (lE (oia tw86 hxa) (lv (v := .slice xp (xn) xc) (e_load1 tw27.ok rfl (kB hxc)) (lE oas (lnf (cs2 ?_)))))))
  refine c_conseq 1 (r' := famF HdF 59 xp xc (mkL mkHd zs.length xn) xp xc (mkL mkHd zs.length xn)) rfl famF_start (c_region (lE oai (lnf (c_block ?_))))
  refine c_loop (fun (x_ : Nat × Option Addr × Nat) f L => match x_ with | (i,q,e) => (f 0 = sB lsa HL (lsc) ∧ f 5 = sB (some ⟨b4,0,none⟩) HL HL.length ∧ f 6 = Nx (zs.length) ∧ f 7 = .slice q (xn + i) e ∧ f 8 = Nx (i)) ∧ L = [Sat (fromK (rowK HdF 59 mkHd) (zs.length + 1) po),famF HdF 59 xp xc (mkL mkHd zs.length xn) q e (mkL mkHd zs.length (xn + i)),Sat (fromK (famK HdF 59 mkHd) 0 zs),rowF H3F 22 (some ⟨b4,0,none⟩) HL.length (zs.map gh3 ++ (⟨none,0,0⟩ : H3) :: List.replicate po.length (⟨none,0,0⟩ : H3))] ∧ (i ≤ 64)) (fun (i,q,e) => 64 - i) (0,xp,xc) ?_ ?_
  ·exact ⟨⟨rfl,rfl,rfl,rfl,rfl⟩,rfl,by omega⟩
  rintro ⟨i,q,e⟩ f0 L0 ⟨⟨hs0,hs5,hs6,hs7,hs8⟩,hL,hi⟩
  subst L0
  refine rbs 0 hs0 (rbs 5 hs5 (rbs 6 hs6 (rbs 7 hs7 (rbs 8 hs8 (cs2 (c_region (lE omi (lE olt (lnf (c_if _ rfl (fun hc6 => ?_) (fun hc6 => ?_)))))))))))
  ·refine csk (c_seq (c_block (c_region (lE oms (lE omi (lE oms (lE omi (lE (oia tw86 hxa) ?_))))))))
   refine lv (v := .slice xp (xn) xc) (e_load1 tw27.ok rfl (kB hxc)) (lE oln (lE omi (lE opn ?_)))
   refine lcR clA (fun w β1 sb kn hw1 => markEk_ok β1 w hw1 zs.length (xn + i) (by omega) (by omega)) ?_
   refine l_mv rfl rfl rfl (m_slices tw29 tw51.ok (cells := #[Ix ((mkHd zs.length (xn + i)).id),.slice ((mkHd zs.length (xn + i)).p) ((mkHd zs.length (xn + i)).n) ((mkHd zs.length (xn + i)).c)]) rfl rfl rfl rfl) ?_
   rintro _ _ ⟨b7,rfl,rfl⟩
   refine l_mv rfl rfl rfl (m_append_famF (F := HdF) 2 tw29 tw53 (q := q) (m := xn + i) (e := e) (zs := [(mkHd zs.length (xn + i))]) (ad := ⟨b7,0,none⟩) (k := 1) (cc := 1) rfl rfl (mkL_len _ _).symm rfl rfl (k_pt 0 rfl rfl) (by omega) (by unfold maxLen; omega) (by omega)) ?_
   rintro _ _ ⟨rp8,rc9,rfl,rfl⟩
   refine lE oas (l_nil (f_block (f_then (c_region (lE omi (lv (v := Nx (i + 1)) (e_add rfl rfl (i64n (by omega) (by omega))) (lE oai (l_nil ?_))))))))
   refine f_mask [false,true,true,true,true] rfl ?_
   exact f_cut ⟨(i + 1,rp8,rc9),⟨⟨rfl,rfl,rfl,rfl,rfl⟩,by rw [mkL_succ] <;> rfl,by omega⟩,(show 64 - (i + 1) < 64 - i from by omega)⟩
  refine c_exit (f_then_exit (f_then_exit (f_exit (f_then (c_region (lE oms (lE omi (lE oms ?_))))))))
  refine lv (v := .pointer (some ((ba (some ⟨b4,0,none⟩)).add (zs.length * 1)))) (e_indexFlN 3 (F := H3F) rfl (by simp only [List.length_append,List.length_map,List.length_replicate,List.length_cons,List.length_set]; omega) rfl tw86 (by omega) rfl) ?_
  refine lu (m_storeFl 3 (F := H3F) (p := (some ⟨b4,0,none⟩)) (k := zs.length) (xs := (zs.map gh3 ++ (⟨none,0,0⟩ : H3) :: List.replicate po.length (⟨none,0,0⟩ : H3))) (z := (⟨q,xn + i,e⟩ : H3)) tw27.ok rfl rfl rfl rfl (by simp only [List.length_append,List.length_map,List.length_replicate,List.length_cons]; omega)) ?_
  refine l_nil (f_block (f_then ?_))
  obtain rfl : i = 64 := by omega
  refine c_perm (L' := [Sat (fromK (famK HdF 59 mkHd) 0 zs),famF HdF 59 xp xc (mkL mkHd zs.length xn) q e (mkL mkHd zs.length (xn + 64)),Sat (fromK (rowK HdF 59 mkHd) (zs.length + 1) po),rowF H3F 22 (some ⟨b4,0,none⟩) HL.length ((zs.map gh3 ++ (⟨none,0,0⟩ : H3) :: List.replicate po.length (⟨none,0,0⟩ : H3)).set zs.length (⟨q,xn + 64,e⟩ : H3))]) (perm_ix [2,1,0,3] 4 rfl (by kernel_rfl) (by kernel_rfl)) ?_
  refine c_re (L' := [Sat (fromK (famK HdF 59 mkHd) 0 zs),famF HdF 59 xp xc (mkL mkHd zs.length xn) q e (mkL mkHd zs.length (xn + 64)),Sat (fromK (rowK HdF 59 mkHd) (zs.length + 1) po),rowF H3F 22 (some ⟨b4,0,none⟩) HL.length ((zs ++ [(⟨(⟨xp,xn,xc⟩ : H3),q,e⟩ : Z5)]).map gh3 ++ List.replicate po.length (⟨none,0,0⟩ : H3))]) (by rw [← gs_set]; rfl) ?_
  refine c_snocR (Ls' := fromK (famK HdF 59 mkHd) 0 (zs ++ [(⟨(⟨xp,xn,xc⟩ : H3),q,e⟩ : Z5)])) (M := [Sat (fromK (rowK HdF 59 mkHd) (zs.length + 1) po),rowF H3F 22 (some ⟨b4,0,none⟩) HL.length ((zs ++ [(⟨(⟨xp,xn,xc⟩ : H3),q,e⟩ : Z5)]).map gh3 ++ List.replicate po.length (⟨none,0,0⟩ : H3))]) rfl (snocK (famK HdF 59 mkHd) (⟨(⟨xp,xn,xc⟩ : H3),q,e⟩ : Z5) zs) ?_
  refine c_region (lE omi (lv (v := Nx (zs.length + 1)) (e_add rfl rfl (i64n (by omega) (by omega))) (lE oai (l_nil ?_))))
  exact f_cut ⟨((zs ++ [⟨(⟨xp,xn,xc⟩ : H3),q,e⟩]),po),⟨⟨rfl,rfl,congrArg (fun z : Nat => Nx z) (by rw [List.length_append]; rfl)⟩,by rw [List.length_append] <;> rfl,by rw [hpp,hpo,List.map_append,List.append_assoc]; rfl⟩,(Nat.lt_succ_self po.length)⟩
 refine c_exit (f_then_exit (f_then_exit (f_exit (fts (c_seq ?_)))))
 have hlen : HL.length = zs.length + post.length := by rw [hpp,List.length_append,List.length_map]
 obtain rfl := unnil hlen (by omega)
 have hz : HL = zs.map Z5.h := by rw [hpp,List.append_nil]
 have hzl : zs.length = HL.length := by rw [hz,List.length_map]
 refine c_re (L' := [Sat (fromK (famK HdF 59 mkHd) 0 zs),Sat (fromK (rowK HdF 59 mkHd) zs.length ([] : List H3)),rowF H3F 22 (some ⟨b4,0,none⟩) HL.length (zs.map gh3)]) (by rw [show List.replicate ([] : List H3).length (⟨none,0,0⟩ : H3) = [] from rfl,List.append_nil]) ?_
 refine c_mask [true,false,true] rfl (c_region (lE oai (lnf (c_block ?_))))
 refine c_loop (fun (k : Nat) f L => (f 0 = sB lsa HL (lsc) ∧ f 5 = sB (some ⟨b4,0,none⟩) HL HL.length ∧ f 9 = Nx (k)) ∧ L = [Sat (fromK (famK HdF 59 mkHd) 0 zs),rowF H3F 22 (some ⟨b4,0,none⟩) HL.length (zs.map gh3)] ∧ (k ≤ HL.length)) (fun k => HL.length - k) 0 ?_ ?_
 ·exact ⟨⟨rfl,rfl,rfl⟩,rfl,by omega⟩
 rintro k f0 L0 ⟨⟨hs0,hs5,hs9⟩,hL,hk⟩
 subst L0
 refine rbs 0 hs0 (rbs 5 hs5 (rbs 9 hs9 (cs2 (c_region (lE omi (lE oms (lE oln (lE olt (lnf (c_if _ rfl (fun hc10 => ?_) (fun hc10 => ?_)))))))))))
 ·refine csk (c_seq (c_block (c_seq ?_)))
  obtain ⟨⟨⟨zp,zn,zc⟩,zq,ze⟩,hzk⟩ : ∃ z_,zs[k]? = some z_ := ⟨_,List.getElem?_eq_getElem (by omega)⟩
  have hx : HL[k]? = some (⟨zp,zn,zc⟩ : H3) := by rw [hz,List.getElem?_map,hzk]; rfl
  have hxl : zn ≤ 1000000 := hbd0 _ (List.mem_of_getElem? hx)
  have hgk : (zs.map gh3)[k]? = some (⟨zq,zn + 64,ze⟩ : H3) := by rw [List.getElem?_map,hzk]; rfl
  obtain ⟨hxa,cs_,hxc,rfl⟩ := lse _ _ hx
  refine c_takeN k (r := famF HdF 59 zp zc (mkL mkHd k zn) zq ze (mkL mkHd k (zn + 64))) (fromK_at0 _ hzk) rfl (c_region (lE oai (lnf (c_block ?_))))
  refine c_loop (fun (i : Nat) f L => (f 0 = sB lsa HL (lsc) ∧ f 5 = sB (some ⟨b4,0,none⟩) HL HL.length ∧ f 9 = Nx (k) ∧ f 10 = Nx (i)) ∧ L = [Sat ((fromK (famK HdF 59 mkHd) 0 zs).eraseIdx k),famF HdF 59 zp zc (mkL mkHd k zn) zq ze (mkL mkHd k (zn + 64)),rowF H3F 22 (some ⟨b4,0,none⟩) HL.length (zs.map gh3)] ∧ (i ≤ zn + 64)) (fun i => zn + 64 - i) 0 ?_ ?_
  ·exact ⟨⟨rfl,rfl,rfl,rfl⟩,rfl,by omega⟩
  rintro i f0 L0 ⟨⟨hs0,hs5,hs9,hs10⟩,hL,hi⟩
  subst L0
  refine rbs 0 hs0 (rbs 5 hs5 (rbs 9 hs9 (rbs 10 hs10 (cs2 (c_region (lE omi (lE oms (lE omi ?_))))))))
  refine lv (v := .pointer (some ((ba (some ⟨b4,0,none⟩)).add (k * 1)))) (e_indexFlN 2 (F := H3F) rfl (by simp only [List.length_append,List.length_map,List.length_replicate,List.length_cons,List.length_set]; omega) rfl tw86 (by omega) rfl) ?_
  refine lv (v := .slice zq (zn + 64) ze) (e_load1 tw27.ok rfl (k_flAt 2 (F := H3F) rfl hgk)) (lE oln (lE olt (lnf ?_)))
  refine c_if _ rfl (fun hc11 => ?_) (fun hc11 => ?_)
  ·refine csk (c_seq (c_block (c_seq (c_quiet (by kernel_rfl) (by kernel_rfl) (qE oms (qE omi ?_))))))
   refine q_val (v := .pointer (some ((ba (some ⟨b4,0,none⟩)).add (k * 1)))) rfl rfl rfl (e_indexFlN 2 (F := H3F) rfl (by simp only [List.length_append,List.length_map,List.length_replicate,List.length_cons,List.length_set]; omega) rfl tw86 (by omega) rfl) ?_
   refine q_val (v := .slice zq (zn + 64) ze) rfl rfl rfl (e_load1 tw27.ok rfl (k_flAt 2 (F := H3F) rfl hgk)) (qE omi ?_)
   refine q_val (v := .pointer (some ((ba zq).add (i * 2)))) rfl rfl rfl (e_indexFam2F 1 (F := HdF) (j := i) (m := zn + 64) rfl (by rw [mkL_len]; omega) rfl tw29 (by omega) rfl) ?_
   refine q_val (v := .agg #[Ix ((mkHd k i).id),.slice ((mkHd k i).p) ((mkHd k i).n) ((mkHd k i).c)]) rfl rfl rfl (e_load tw7.ok rfl (k_fam2F 1 (F := HdF) (j := i) (x := (mkHd k i)) rfl (mkL_at (by omega))) rfl) ?_
   refine qE omi (qE omi ?_)
   refine q_call (v := .agg #[Ix ((mkHd k i).id),.slice ((mkHd k i).p) ((mkHd k i).n) ((mkHd k i).c)]) rfl rfl rfl (cl0 (vs := [Nx (k),Nx (i)]) tw76.ok rfl rfl) (fun w hw => ?_) ?_
   ·obtain ⟨β1,sb,kn,hw1,back⟩ := St.frame_all hw
    exact (markEk_ok β1 w hw1 k i (by omega) (by omega)).mono (fun e w' ⟨he,hw'⟩ => ⟨he,st_mask [true,true,true] rfl (back _ _ hw')⟩)
   refine q_call (v := .bool true) rfl rfl rfl (cl0 (vs := [.agg #[Ix ((mkHd k i).id),.slice ((mkHd k i).p) ((mkHd k i).n) ((mkHd k i).c)],.agg #[Ix ((mkHd k i).id),.slice ((mkHd k i).p) ((mkHd k i).n) ((mkHd k i).c)]]) tw89.ok rfl rfl) (fun w hw => ?_) ?_
   ·obtain ⟨β1,sb,kn,hw1,back⟩ := St.frame_all hw
    exact (sameEk_ok β1 w hw1 k i).mono (fun e w' ⟨he,hw'⟩ => ⟨he,st_mask [true,true,true] rfl (back _ _ hw')⟩)
   refine qE ont (qE omb (rE omi (rE oms (rE omi (rE (oia tw86 hxa) ?_)))))
   refine qg_val (v := .slice zp (zn) zc) rfl rfl rfl rfl rfl (e_load1 tw27.ok rfl (kB hxc)) (rE oln (rE olt (rE omb ?_)))
   refine q_split (s := 108) rfl (fun hg12 => ?_) (fun hg12 => ?_)
   ·refine rE oms (rE omi (rE (oia tw86 hxa) (qg_val (v := .slice zp (zn) zc) rfl rfl rfl rfl rfl (e_load1 tw27.ok rfl (kB hxc)) (rE omi ?_))))
    refine qg_val (v := .pointer (some ((ba zp).add (i * 2)))) rfl rfl rfl rfl rfl (e_indexFam1F 1 (F := HdF) (j := i) (m := zn) rfl (by rw [mkL_len]; omega) rfl tw29 (by omega) rfl) ?_
    refine qg_val (v := .agg #[Ix ((mkHd k i).id),.slice ((mkHd k i).p) ((mkHd k i).n) ((mkHd k i).c)]) rfl rfl rfl rfl rfl (e_load tw7.ok rfl (k_fam1F 1 (F := HdF) (j := i) (x := (mkHd k i)) rfl (mkL_at (by omega))) rfl) ?_
    refine rE omi (rE omi ?_)
    refine qg_call (v := .agg #[Ix ((mkHd k i).id),.slice ((mkHd k i).p) ((mkHd k i).n) ((mkHd k i).c)]) rfl rfl rfl rfl rfl (cl0 (vs := [Nx (k),Nx (i)]) tw76.ok rfl rfl) (fun w hw => ?_) ?_
    ·obtain ⟨β1,sb,kn,hw1,back⟩ := St.frame_all hw
     exact (markEk_ok β1 w hw1 k i (by omega) (by omega)).mono (fun e w' ⟨he,hw'⟩ => ⟨he,st_mask [true,true,true] rfl (back _ _ hw')⟩)
    refine qg_call (v := .bool true) rfl rfl rfl rfl rfl (cl0 (vs := [.agg #[Ix ((mkHd k i).id),.slice ((mkHd k i).p) ((mkHd k i).n) ((mkHd k i).c)],.agg #[Ix ((mkHd k i).id),.slice ((mkHd k i).p) ((mkHd k i).n) ((mkHd k i).c)]]) tw89.ok rfl rfl) (fun w hw => ?_) ?_
    ·obtain ⟨β1,sb,kn,hw1,back⟩ := St.frame_all hw
     exact (sameEk_ok β1 w hw1 k i).mono (fun e w' ⟨he,hw'⟩ => ⟨he,st_mask [true,true,true] rfl (back _ _ hw')⟩)
    refine rE ont (rE oktb (qE okfb (q_nil (f_then (c_no rfl (c_skip (f_block (f_then (c_region (lE omi ?_))))))))))
    refine lv (v := Nx (i + 1)) (e_add rfl rfl (i64n (by omega) (by omega))) (lE oai (l_nil ?_))
    exact f_cut ⟨i + 1,⟨⟨rfl,rfl,rfl,rfl⟩,rfl,by omega⟩,(show zn + 64 - (i + 1) < zn + 64 - i from by omega)⟩
   iterate 12 refine qsE ?_
   refine rE okfb (qE okfb (q_nil (f_then (c_no rfl (c_skip (f_block (f_then (c_region (lE omi ?_)))))))))
   refine lv (v := Nx (i + 1)) (e_add rfl rfl (i64n (by omega) (by omega))) (lE oai (l_nil ?_))
   exact f_cut ⟨i + 1,⟨⟨rfl,rfl,rfl,rfl⟩,rfl,by omega⟩,(show zn + 64 - (i + 1) < zn + 64 - i from by omega)⟩
  refine c_exit (f_then_exit (f_then_exit (f_exit (f_block (f_then (c_putN k (fromK_at0 _ hzk) rfl ?_))))))
  refine c_re (L' := [Sat (fromK (famK HdF 59 mkHd) 0 zs),rowF H3F 22 (some ⟨b4,0,none⟩) HL.length (zs.map gh3)]) rfl (c_region (lE omi ?_))
  refine lv (v := Nx (k + 1)) (e_add rfl rfl (i64n (by omega) (by omega))) (lE oai (l_nil ?_))
  exact f_cut ⟨k + 1,⟨⟨rfl,rfl,rfl⟩,rfl,by omega⟩,(show HL.length - (k + 1) < HL.length - k from by omega)⟩
 refine c_exit (f_then_exit (f_then_exit (f_exit (fts (c_seq (c_emp (r := Sat (fromK (famM HdF 59 mkHd HL.length) 0 [])) trivial (c_region (lE oai ?_))))))))
 refine lnf (c_block ?_)
 refine c_loop (fun (x_ : List Z5 × List Z5) f L => match x_ with | (ys,post) => (f 0 = sB lsa HL (lsc) ∧ f 5 = sB (some ⟨b4,0,none⟩) HL HL.length ∧ f 11 = Nx (ys.length)) ∧ L = [Sat (fromK (famM HdF 59 mkHd HL.length) 0 ys),Sat (fromK (famK HdF 59 mkHd) ys.length post),rowF H3F 22 (some ⟨b4,0,none⟩) HL.length (ys.map gh3 ++ post.map gh3)] ∧ (HL = ys.map Z5.h ++ post.map Z5.h)) (fun (ys,post) => post.length) ([],zs) ?_ ?_
 ·exact ⟨⟨rfl,rfl,rfl⟩,rfl,hz⟩
 rintro ⟨ys,post⟩ f0 L0 ⟨⟨hs0,hs5,hs11⟩,hL,hpp⟩
 subst L0
 refine rbs 0 hs0 (rbs 5 hs5 (rbs 11 hs11 ?_))
 have hlen : HL.length = ys.length + post.length := by rw [hpp,List.length_append,List.length_map,List.length_map]
 refine cs2 (c_region (lE omi (lE oms (lE oln (lE olt (lnf (c_if _ rfl (fun hc13 => ?_) (fun hc13 => ?_))))))))
 ·refine csk (c_seq (c_block (c_seq ?_)))
  obtain ⟨⟨⟨zp,zn,zc⟩,zq,ze⟩,po,hpo⟩ := uncons hlen (by omega)
  have hx : HL[ys.length]? = some (⟨zp,zn,zc⟩ : H3) := by rw [hpp,hpo]; exact mid_at (List.length_map _).symm
  have hxl : zn ≤ 1000000 := hbd0 _ (List.mem_of_getElem? hx)
  obtain ⟨hxa,cs_,hxc,rfl⟩ := lse _ _ hx
  refine c_perm (L' := [Sat (fromK (famK HdF 59 mkHd) ys.length post),Sat (fromK (famM HdF 59 mkHd HL.length) 0 ys),rowF H3F 22 (some ⟨b4,0,none⟩) HL.length (ys.map gh3 ++ post.map gh3)]) (perm_ix [1,0,2] 3 rfl (by kernel_rfl) (by kernel_rfl)) ?_
  rw [hpo]
  refine c_headR (r := famF HdF 59 zp zc (mkL mkHd ys.length zn) zq ze (mkL mkHd ys.length (zn + 64))) (Ls := fromK (famK HdF 59 mkHd) (ys.length + 1) po) (M := [Sat (fromK (famM HdF 59 mkHd HL.length) 0 ys),rowF H3F 22 (some ⟨b4,0,none⟩) HL.length (ys.map gh3 ++ ((⟨(⟨zp,zn,zc⟩ : H3),zq,ze⟩ : Z5) :: po).map gh3)]) rfl ?_
  have hpl : post.length = po.length + 1 := by rw [hpo]; rfl
  refine c_region ?_
  refine l_mv rfl rfl rfl (m_makeFl (F := HdF) (x0 := (⟨0,none,0,0⟩ : KHd)) (c := 64) tw29 tw53 tw51.ok rfl rfl rfl (by unfold maxLen; omega) (by omega)) ?_
  rintro _ _ ⟨b14,rfl,rfl⟩
  refine lE oas (lnf (cs2 (c_region (lE oai (lnf (c_block ?_))))))
  refine c_loop (fun (i : Nat) f L => (f 0 = sB lsa HL (lsc) ∧ f 5 = sB (some ⟨b4,0,none⟩) HL HL.length ∧ f 11 = Nx (ys.length) ∧ f 12 = .slice (some ⟨b14,0,none⟩) (64) 64 ∧ f 13 = Nx (i)) ∧ L = [rowF HdF 59 (some ⟨b14,0,none⟩) 64 ((mkL mkHd (ys.length + HL.length) i) ++ (List.replicate 64 (⟨0,none,0,0⟩ : KHd)).drop i),Sat (fromK (famK HdF 59 mkHd) (ys.length + 1) po),famF HdF 59 zp zc (mkL mkHd ys.length zn) zq ze (mkL mkHd ys.length (zn + 64)),Sat (fromK (famM HdF 59 mkHd HL.length) 0 ys),rowF H3F 22 (some ⟨b4,0,none⟩) HL.length (ys.map gh3 ++ ((⟨(⟨zp,zn,zc⟩ : H3),zq,ze⟩ : Z5) :: po).map gh3)] ∧ (i ≤ 64)) (fun i => 64 - i) 0 ?_ ?_
  ·exact ⟨⟨rfl,rfl,rfl,rfl,rfl⟩,by rw [mkp_zero],by omega⟩
  rintro i f0 L0 ⟨⟨hs0,hs5,hs11,hs12,hs13⟩,hL,hi⟩
  subst L0
  refine rbs 0 hs0 (rbs 5 hs5 (rbs 11 hs11 (rbs 12 hs12 (rbs 13 hs13 (cs2 (c_region (lE omi (lE olt (lnf (c_if _ rfl (fun hc15 => ?_) (fun hc15 => ?_)))))))))))
  ·refine csk (c_seq (c_block (c_region (lE oms (lE omi (lE omi (lE oms (lE oln (lE opn (lE omi ?_))))))))))
   refine lcR clA (fun w β1 sb kn hw1 => markEk_ok β1 w hw1 (ys.length + HL.length) i (by omega) (by omega)) ?_
   refine lv (v := .pointer (some ((ba (some ⟨b14,0,none⟩)).add (i * 2)))) (e_indexFlN 0 (F := HdF) rfl (by rw [mkp_len (by rw [List.length_replicate]; omega),List.length_replicate]) rfl tw29 (by omega) rfl) ?_
   refine lu (m_storeFl 0 (F := HdF) (p := (some ⟨b14,0,none⟩)) (k := i) (xs := ((mkL mkHd (ys.length + HL.length) i) ++ (List.replicate 64 (⟨0,none,0,0⟩ : KHd)).drop i)) (z := (mkHd (ys.length + HL.length) i)) tw7.ok rfl rfl rfl rfl (by rw [mkp_len (by first | omega | (rw [List.length_replicate]; omega))]; (try rw [List.length_replicate]); omega)) ?_
   refine l_nil (f_block (f_then (c_region (lE omi (lv (v := Nx (i + 1)) (e_add rfl rfl (i64n (by omega) (by omega))) (lE oai (l_nil ?_)))))))
   exact f_cut ⟨i + 1,⟨⟨rfl,rfl,rfl,rfl,rfl⟩,by rw [mkp_step (by rw [List.length_replicate]; omega)] <;> rfl,by omega⟩,(show 64 - (i + 1) < 64 - i from by omega)⟩
  refine c_exit (f_then_exit (f_then_exit (f_exit (f_then ?_))))
  obtain rfl : i = 64 := by omega
  rw [mkp_done (by rw [List.length_replicate]; omega)]
  refine c_conseq 2 (r' := famF HdF 59 zp zc (mkL mkHd ys.length zn) zp zc (mkL mkHd ys.length zn)) rfl (fun a h => famF_start a (famF_first a h)) ?_
  refine c_region (lE oms (lE omi (lE oms (lE omi (lE (oia tw86 hxa) (lv (v := .slice zp (zn) zc) (e_load1 tw27.ok rfl (kB hxc)) (lE oms ?_)))))))
  refine l_mv rfl rfl rfl (m_append_famF (F := HdF) 2 tw29 tw53 (q := zp) (m := zn) (e := zc) (zs := (mkL mkHd (ys.length + HL.length) 64)) (ad := ⟨b14,0,none⟩) (k := 64) (cc := 64) rfl rfl (mkL_len _ _).symm rfl (mkL_len _ _) (k_rowF_all (p := (some ⟨b14,0,none⟩)) 0 rfl (by rw [mkL_len]; omega)) (by omega) (by unfold maxLen; omega) (by omega)) ?_
  rintro _ _ ⟨rp16,rc17,rfl,rfl⟩
  refine lv (v := .pointer (some ((ba (some ⟨b4,0,none⟩)).add (ys.length * 1)))) (e_indexFlN 4 (F := H3F) rfl (by simp only [List.length_append,List.length_map,List.length_replicate,List.length_cons,List.length_set]; omega) rfl tw86 (by omega) rfl) ?_
  refine lu (m_storeFl 4 (F := H3F) (p := (some ⟨b4,0,none⟩)) (k := ys.length) (xs := (ys.map gh3 ++ ((⟨(⟨zp,zn,zc⟩ : H3),zq,ze⟩ : Z5) :: po).map gh3)) (z := (⟨rp16,zn + 64,rc17⟩ : H3)) tw27.ok rfl rfl rfl rfl (by simp only [List.length_append,List.length_map,List.length_replicate,List.length_cons]; omega)) ?_
  refine l_nil (f_block (f_then ?_))
  obtain ⟨q,hq_⟩ : ∃ z_,z_ = rp16 := ⟨_,rfl⟩
  obtain ⟨e,he_⟩ : ∃ z_,z_ = rc17 := ⟨_,rfl⟩
  rw [← hq_,← he_]
  refine c_perm (L' := [Sat (fromK (famM HdF 59 mkHd HL.length) 0 ys),famF HdF 59 zp zc (mkL mkHd ys.length zn) q e ((mkL mkHd ys.length zn) ++ (mkL mkHd (ys.length + HL.length) 64)),rowF HdF 59 (some ⟨b14,0,none⟩) 64 (mkL mkHd (ys.length + HL.length) 64),Sat (fromK (famK HdF 59 mkHd) (ys.length + 1) po),rowF H3F 22 (some ⟨b4,0,none⟩) HL.length ((ys.map gh3 ++ ((⟨(⟨zp,zn,zc⟩ : H3),zq,ze⟩ : Z5) :: po).map gh3).set ys.length (⟨q,zn + 64,e⟩ : H3))]) (perm_ix [3,2,0,1,4] 5 rfl (by kernel_rfl) (by kernel_rfl)) ?_
  refine c_re (L' := [Sat (fromK (famM HdF 59 mkHd HL.length) 0 ys),famF HdF 59 zp zc (mkL mkHd ys.length zn) q e ((mkL mkHd ys.length zn) ++ (mkL mkHd (ys.length + HL.length) 64)),rowF HdF 59 (some ⟨b14,0,none⟩) 64 (mkL mkHd (ys.length + HL.length) 64),Sat (fromK (famK HdF 59 mkHd) (ys.length + 1) po),rowF H3F 22 (some ⟨b4,0,none⟩) HL.length ((ys ++ [(⟨(⟨zp,zn,zc⟩ : H3),q,e⟩ : Z5)]).map gh3 ++ po.map gh3)]) (by rw [← gs_set2]; rfl) ?_
  refine c_snocR (Ls' := fromK (famM HdF 59 mkHd HL.length) 0 (ys ++ [(⟨(⟨zp,zn,zc⟩ : H3),q,e⟩ : Z5)])) (M := [rowF HdF 59 (some ⟨b14,0,none⟩) 64 (mkL mkHd (ys.length + HL.length) 64),Sat (fromK (famK HdF 59 mkHd) (ys.length + 1) po),rowF H3F 22 (some ⟨b4,0,none⟩) HL.length ((ys ++ [(⟨(⟨zp,zn,zc⟩ : H3),q,e⟩ : Z5)]).map gh3 ++ po.map gh3)]) rfl (snocK (famM HdF 59 mkHd HL.length) (⟨(⟨zp,zn,zc⟩ : H3),q,e⟩ : Z5) ys) ?_
  refine c_mask [true,false,true,true] rfl (c_region (lE omi (lv (v := Nx (ys.length + 1)) (e_add rfl rfl (i64n (by omega) (by omega))) (lE oai ?_))))
  refine l_nil ?_
  exact f_cut ⟨((ys ++ [⟨(⟨zp,zn,zc⟩ : H3),q,e⟩]),po),⟨⟨rfl,rfl,congrArg (fun z : Nat => Nx z) (by rw [List.length_append]; rfl)⟩,by rw [List.length_append] <;> rfl,by rw [hpp,hpo,List.map_append,List.append_assoc]; rfl⟩,(Nat.lt_succ_self po.length)⟩
 refine c_exit (f_then_exit (f_then_exit (f_exit (fts (c_seq ?_)))))
 have hlen : HL.length = ys.length + post.length := by rw [hpp,List.length_append,List.length_map,List.length_map]
 obtain rfl := unnil hlen (by omega)
 have hy : HL = ys.map Z5.h := by rw [hpp,List.map_nil,List.append_nil]
 have hyl : ys.length = HL.length := by rw [hy,List.length_map]
 refine c_re (L' := [Sat (fromK (famM HdF 59 mkHd HL.length) 0 ys),Sat (fromK (famK HdF 59 mkHd) ys.length ([] : List Z5)),rowF H3F 22 (some ⟨b4,0,none⟩) HL.length (ys.map gh3)]) (by rw [List.map_nil,List.append_nil]) ?_
 refine c_mask [true,false,true] rfl (c_region (lE oai (lnf (c_block ?_))))
 refine c_loop (fun (k : Nat) f L => (f 0 = sB lsa HL (lsc) ∧ f 5 = sB (some ⟨b4,0,none⟩) HL HL.length ∧ f 14 = Nx (k)) ∧ L = [Sat (fromK (famM HdF 59 mkHd HL.length) 0 ys),rowF H3F 22 (some ⟨b4,0,none⟩) HL.length (ys.map gh3)] ∧ (k ≤ HL.length)) (fun k => HL.length - k) 0 ?_ ?_
 ·exact ⟨⟨rfl,rfl,rfl⟩,rfl,by omega⟩
 rintro k f0 L0 ⟨⟨hs0,hs5,hs14⟩,hL,hk⟩
 subst L0
 refine rbs 0 hs0 (rbs 5 hs5 (rbs 14 hs14 (cs2 (c_region (lE omi (lE oms (lE oln (lE olt (lnf (c_if _ rfl (fun hc18 => ?_) (fun hc18 => ?_)))))))))))
 ·refine csk (c_seq (c_block (c_seq ?_)))
  obtain ⟨⟨⟨zp,zn,zc⟩,zq,ze⟩,hzk⟩ : ∃ z_,ys[k]? = some z_ := ⟨_,List.getElem?_eq_getElem (by omega)⟩
  have hx : HL[k]? = some (⟨zp,zn,zc⟩ : H3) := by rw [hy,List.getElem?_map,hzk]; rfl
  have hxl : zn ≤ 1000000 := hbd0 _ (List.mem_of_getElem? hx)
  have hgk : (ys.map gh3)[k]? = some (⟨zq,zn + 64,ze⟩ : H3) := by rw [List.getElem?_map,hzk]; rfl
  obtain ⟨hxa,cs_,hxc,rfl⟩ := lse _ _ hx
  refine c_takeN k (r := famF HdF 59 zp zc (mkL mkHd k zn) zq ze ((mkL mkHd k zn) ++ (mkL mkHd (k + HL.length) 64))) (fromK_at0 _ hzk) rfl (c_region ?_)
  refine lE oai (lnf (c_block ?_))
  refine c_loop (fun (i : Nat) f L => (f 0 = sB lsa HL (lsc) ∧ f 5 = sB (some ⟨b4,0,none⟩) HL HL.length ∧ f 14 = Nx (k) ∧ f 15 = Nx (i)) ∧ L = [Sat ((fromK (famM HdF 59 mkHd HL.length) 0 ys).eraseIdx k),famF HdF 59 zp zc (mkL mkHd k zn) zq ze ((mkL mkHd k zn) ++ (mkL mkHd (k + HL.length) 64)),rowF H3F 22 (some ⟨b4,0,none⟩) HL.length (ys.map gh3)] ∧ (i ≤ zn)) (fun i => zn - i) 0 ?_ ?_
  ·exact ⟨⟨rfl,rfl,rfl,rfl⟩,rfl,by omega⟩
  rintro i f0 L0 ⟨⟨hs0,hs5,hs14,hs15⟩,hL,hi⟩
  subst L0
  refine rbs 0 hs0 (rbs 5 hs5 (rbs 14 hs14 (rbs 15 hs15 (cs2 (c_region (lE omi (lE oms (lE omi (lE (oia tw86 hxa) ?_)))))))))
  refine lv (v := .slice zp (zn) zc) (e_load1 tw27.ok rfl (kB hxc)) (lE oln (lE olt (lnf (c_if _ rfl (fun hc19 => ?_) (fun hc19 => ?_)))))
  ·refine csk (c_seq (c_block (c_seq (c_quiet (by kernel_rfl) (by kernel_rfl) (qE oms (qE omi (qE (oia tw86 hxa) ?_)))))))
   refine q_val (v := .slice zp (zn) zc) rfl rfl rfl (e_load1 tw27.ok rfl (kB hxc)) (qE omi ?_)
   refine q_val (v := .pointer (some ((ba zp).add (i * 2)))) rfl rfl rfl (e_indexFam1F 1 (F := HdF) (j := i) (m := zn) rfl (by rw [mkL_len]; omega) rfl tw29 (by omega) rfl) ?_
   refine q_val (v := .agg #[Ix ((mkHd k i).id),.slice ((mkHd k i).p) ((mkHd k i).n) ((mkHd k i).c)]) rfl rfl rfl (e_load tw7.ok rfl (k_fam1F 1 (F := HdF) (j := i) (x := (mkHd k i)) rfl (mkL_at (by omega))) rfl) ?_
   refine qE omi (qE omi ?_)
   refine q_call (v := .agg #[Ix ((mkHd k i).id),.slice ((mkHd k i).p) ((mkHd k i).n) ((mkHd k i).c)]) rfl rfl rfl (cl0 (vs := [Nx (k),Nx (i)]) tw76.ok rfl rfl) (fun w hw => ?_) ?_
   ·obtain ⟨β1,sb,kn,hw1,back⟩ := St.frame_all hw
    exact (markEk_ok β1 w hw1 k i (by omega) (by omega)).mono (fun e w' ⟨he,hw'⟩ => ⟨he,st_mask [true,true,true] rfl (back _ _ hw')⟩)
   refine q_call (v := .bool true) rfl rfl rfl (cl0 (vs := [.agg #[Ix ((mkHd k i).id),.slice ((mkHd k i).p) ((mkHd k i).n) ((mkHd k i).c)],.agg #[Ix ((mkHd k i).id),.slice ((mkHd k i).p) ((mkHd k i).n) ((mkHd k i).c)]]) tw89.ok rfl rfl) (fun w hw => ?_) ?_
   ·obtain ⟨β1,sb,kn,hw1,back⟩ := St.frame_all hw
    exact (sameEk_ok β1 w hw1 k i).mono (fun e w' ⟨he,hw'⟩ => ⟨he,st_mask [true,true,true] rfl (back _ _ hw')⟩)
   refine qE ont (qE omb (rE oms (rE omi ?_)))
   refine qg_val (v := .pointer (some ((ba (some ⟨b4,0,none⟩)).add (k * 1)))) rfl rfl rfl rfl rfl (e_indexFlN 2 (F := H3F) rfl (by simp only [List.length_append,List.length_map,List.length_replicate,List.length_cons,List.length_set]; omega) rfl tw86 (by omega) rfl) ?_
   refine qg_val (v := .slice zq (zn + 64) ze) rfl rfl rfl rfl rfl (e_load1 tw27.ok rfl (k_flAt 2 (F := H3F) rfl hgk)) (rE omi ?_)
   refine qg_val (v := .pointer (some ((ba zq).add (i * 2)))) rfl rfl rfl rfl rfl (e_indexFam2F 1 (F := HdF) (j := i) (m := zn + 64) rfl (by rw [List.length_append,mkL_len,mkL_len]; omega) rfl tw29 (by omega) rfl) ?_
   refine qg_val (v := .agg #[Ix ((mkHd k i).id),.slice ((mkHd k i).p) ((mkHd k i).n) ((mkHd k i).c)]) rfl rfl rfl rfl rfl (e_load tw7.ok rfl (k_fam2F 1 (F := HdF) (j := i) (x := (mkHd k i)) rfl (mkL_at2 (by omega))) rfl) ?_
   refine rE omi (rE omi ?_)
   refine qg_call (v := .agg #[Ix ((mkHd k i).id),.slice ((mkHd k i).p) ((mkHd k i).n) ((mkHd k i).c)]) rfl rfl rfl rfl rfl (cl0 (vs := [Nx (k),Nx (i)]) tw76.ok rfl rfl) (fun w hw => ?_) ?_
   ·obtain ⟨β1,sb,kn,hw1,back⟩ := St.frame_all hw
    exact (markEk_ok β1 w hw1 k i (by omega) (by omega)).mono (fun e w' ⟨he,hw'⟩ => ⟨he,st_mask [true,true,true] rfl (back _ _ hw')⟩)
   refine qg_call (v := .bool true) rfl rfl rfl rfl rfl (cl0 (vs := [.agg #[Ix ((mkHd k i).id),.slice ((mkHd k i).p) ((mkHd k i).n) ((mkHd k i).c)],.agg #[Ix ((mkHd k i).id),.slice ((mkHd k i).p) ((mkHd k i).n) ((mkHd k i).c)]]) tw89.ok rfl rfl) (fun w hw => ?_) ?_
   ·obtain ⟨β1,sb,kn,hw1,back⟩ := St.frame_all hw
    exact (sameEk_ok β1 w hw1 k i).mono (fun e w' ⟨he,hw'⟩ => ⟨he,st_mask [true,true,true] rfl (back _ _ hw')⟩)
   refine rE ont (qE okfb (q_nil (f_then (c_no rfl (c_skip (f_block (f_then (c_region (lE omi ?_)))))))))
   refine lv (v := Nx (i + 1)) (e_add rfl rfl (i64n (by omega) (by omega))) (lE oai (l_nil ?_))
   exact f_cut ⟨i + 1,⟨⟨rfl,rfl,rfl,rfl⟩,rfl,by omega⟩,(show zn - (i + 1) < zn - i from by omega)⟩
  refine c_exit (f_then_exit (f_then_exit (f_exit (f_block (f_then (c_putN k (fromK_at0 _ hzk) rfl ?_))))))
  refine c_re (L' := [Sat (fromK (famM HdF 59 mkHd HL.length) 0 ys),rowF H3F 22 (some ⟨b4,0,none⟩) HL.length (ys.map gh3)]) rfl (c_region (lE omi ?_))
  refine lv (v := Nx (k + 1)) (e_add rfl rfl (i64n (by omega) (by omega))) (lE oai (l_nil ?_))
  exact f_cut ⟨k + 1,⟨⟨rfl,rfl,rfl⟩,rfl,by omega⟩,(show HL.length - (k + 1) < HL.length - k from by omega)⟩
 refine c_exit (f_then_exit (f_then_exit (f_exit (ftc (lE oab (lnf (c_ret (ret1 Tryz.results125 rfl ?_))))))))
 intro w hw
 exact ⟨rfl,st_mask [false,false] rfl hw⟩
set_option maxHeartbeats 4000000 in
theorem flatW_ok (β : Base) (w : World) (v : Value) (HL : List H3) (hv : List (HV KWd)) (hhs : HL = hv.map HV.h) (hls : Sl H3F.R β.heap v HL) (hn : HL.length ≤ 1000) (hbd : ∀ v ∈ hv, v.xs.length ≤ 1000000) (hw : St β [Sat (hv.map (ownV WdF 24))] w) : Ret Tryz.prog 126 #[v] β w (.bool true) := by
 have hbd0 : ∀ h ∈ HL,h.n ≤ 1000000 := fun h hh => by rw [hhs] at hh; obtain ⟨v,hv_,rfl⟩ := List.mem_map.1 hh; exact hbd v hv_
 obtain ⟨lsa,lsc,rfl,lsl,lsm,lse⟩ := hls.get
 refine enter (n := 193) Tryz.func126 rfl Tryz.ntmps126 rfl ?_ hw
 refine csr (lE oab (lnf (cs2 (c_emp (r := Sat (fromK (rowK WdF 24 mkWd) 0 [])) trivial (c_region (lE oai (lnf (c_block ?_))))))))
 refine c_loop (fun (x_ : List H3 × List (HV KWd)) f L => match x_ with | (pre,post) => (f 0 = sB lsa HL (lsc) ∧ f 3 = Nx (pre.length)) ∧ L = [Sat (fromK (rowK WdF 24 mkWd) 0 pre),Sat (post.map (ownV WdF 24))] ∧ (HL = pre ++ post.map HV.h ∧ ∀ v ∈ post,v.xs.length ≤ 1000000)) (fun (pre,post) => post.length) ([],hv) ?_ ?_
 ·exact ⟨⟨rfl,rfl⟩,rfl,⟨hhs,hbd⟩⟩
 rintro ⟨pre,post⟩ f0 L0 ⟨⟨hs0,hs3⟩,hL,⟨hpp,hbp⟩⟩
 subst L0
 refine rbs 0 hs0 (rbs 3 hs3 ?_)
 have hlen : HL.length = pre.length + post.length := by rw [hpp,List.length_append,List.length_map]
 refine cs2 (c_region (lE omi (lE oms (lE oln (lE olt (lnf (c_if _ rfl (fun hc1 => ?_) (fun hc1 => ?_))))))))
 ·refine csk (c_seq (c_block (c_seq ?_)))
  obtain ⟨⟨xp,xc,xs⟩,po,hpo⟩ := uncons hlen (by omega)
  have hx : HL[pre.length]? = some (⟨xp,xs.length,xc⟩ : H3) := by rw [hpp,hpo]; exact mid_at rfl
  have hxl : xs.length ≤ 1000000 := hbp ⟨xp,xc,xs⟩ (by rw [hpo]; exact List.mem_cons_self)
  obtain ⟨hxa,cs_,hxc,rfl⟩ := lse _ _ hx
  refine c_perm (L' := [Sat (post.map (ownV WdF 24)),Sat (fromK (rowK WdF 24 mkWd) 0 pre)]) (perm_ix [1,0] 2 rfl (by kernel_rfl) (by kernel_rfl)) ?_
  rw [hpo]
  refine c_headR (r := rowF WdF 24 xp xc xs) (Ls := po.map (ownV WdF 24)) (M := [Sat (fromK (rowK WdF 24 mkWd) 0 pre)]) rfl (c_region (lE oai (lnf ?_)))
  refine c_block ?_
  refine c_loop (fun (i : Nat) f L => (f 0 = sB lsa HL (lsc) ∧ f 3 = Nx (pre.length) ∧ f 4 = Nx (i)) ∧ L = [Sat (po.map (ownV WdF 24)),rowF WdF 24 xp xc ((mkL mkWd pre.length i) ++ xs.drop i),Sat (fromK (rowK WdF 24 mkWd) 0 pre)] ∧ (i ≤ xs.length)) (fun i => xs.length - i) 0 ?_ ?_
  ·exact ⟨⟨rfl,rfl,rfl⟩,by rw [mkp_zero],by omega⟩
  rintro i f0 L0 ⟨⟨hs0,hs3,hs4⟩,hL,hi⟩
  subst L0
  refine rbs 0 hs0 (rbs 3 hs3 (rbs 4 hs4 (cs2 (c_region (lE omi (lE oms (lE omi (lE (oia tw91 hxa) ?_))))))))
  refine lv (v := sB xp xs xc) (e_load1 tw92.ok rfl (kB hxc)) (lE oln (lE olt (lnf (c_if _ rfl (fun hc2 => ?_) (fun hc2 => ?_)))))
  ·refine csk (c_seq (c_block ?_))
   refine cny [sv 31 (sB lsa HL (lsc)) [] [] [0],sv 32 (Nx (pre.length)) [] [] [1],sv 33 (.pointer (some ((ba lsa).add (pre.length * 1)))) [0,1] [0,1] [],sv 34 (sB xp xs xc) [0,1,2] [2] [],sv 35 (Nx (i)) [] [] [2],sv 36 (Nx (pre.length)) [] [] [1],sv 37 (Nx (i)) [] [] [2],sv 38 (.agg #[Ix ((mkWd pre.length i).tick),.slice ((mkWd pre.length i).p) ((mkWd pre.length i).n) ((mkWd pre.length i).c)]) [5,6] [5,6] [],sv 39 (.pointer (some ((ba xp).add (i * 2)))) (List.range 8) [3,4] [],⟨(List.range 9),[8,7],[],[],fun _ => True⟩] [tk (Sat (po.map (ownV WdF 24))) [],⟨none,(some 9),[8,9],[],fun _ => rowF WdF 24 xp xc ((mkL mkWd pre.length i) ++ xs.drop i)⟩,tk (Sat (fromK (rowK WdF 24 mkWd) 0 pre)) [],⟨(some 9),none,[],[],fun _ => rowF WdF 24 xp xc (((mkL mkWd pre.length i) ++ xs.drop i).set i (mkWd pre.length i))⟩] [(0,sB lsa HL (lsc)),(3,Nx (pre.length)),(4,Nx (i))] [0,1,2] [] ⟨rfl,rfl,rfl,trivial⟩ ⟨?_,?_,?_,?_,?_,?_,?_,?_,?_,?_,trivial⟩ ?_
   ·rintro f M - ⟨i0,-⟩
    exact obE oms
   ·rintro f M - ⟨i0,-⟩
    exact obE omi
   ·rintro f M ⟨k0,k1,-⟩ -
    exact ob0 (up_cons (d := 32) (up_cons (d := 31) rfl k0) k1) rfl (e_indexAddr rfl rfl tw91 (by omega) hxa) (.refl _)
   ·rintro f M ⟨k0,-⟩ -
    exact ob0 (up_cons (d := 33) rfl k0) rfl (e_load1 tw92.ok rfl (kB hxc)) (.refl _)
   ·rintro f M - ⟨i0,-⟩
    exact obE omi
   ·rintro f M - ⟨i0,-⟩
    exact obE omi
   ·rintro f M - ⟨i0,-⟩
    exact obE omi
   ·rintro f M ⟨k0,k1,-⟩ -
    refine ob_start (L' := M) (by rfl) (up_cons (d := 37) (up_cons (d := 36) rfl k0) k1) ?_
    refine lcR clA (fun w β1 sb kn hw1 => markWk_ok β1 w hw1 pre.length i (by omega) (by omega)) (l_nil ?_)
    exact f_owes_d (up_cons (d := 37) (up_cons (d := 36) rfl k0) k1) rfl (List.Perm.refl _)
   ·rintro f M ⟨k0,k1,-⟩ -
    exact obv (L' := rowF WdF 24 xp xc ((mkL mkWd pre.length i) ++ xs.drop i) :: M) (up_cons (d := 35) (up_cons (d := 34) rfl k0) k1) rfl (e_indexFlN 0 (F := WdF) (j := i) (m := xs.length) (xs := ((mkL mkWd pre.length i) ++ xs.drop i)) rfl (mkp_len (by omega)).symm rfl tw95 (by omega) rfl) (perm_front 0 rfl) (by rfl)
   ·rintro f M ⟨k0,k1,-⟩ -
    refine ob_start (L' := rowF WdF 24 xp xc ((mkL mkWd pre.length i) ++ xs.drop i) :: M) (by rfl) (up_cons (d := 38) (up_cons (d := 39) rfl k0) k1) ?_
    refine lu (m_storeFl 0 (F := WdF) (p := xp) (k := i) (xs := ((mkL mkWd pre.length i) ++ xs.drop i)) (z := (mkWd pre.length i)) tw48.ok rfl rfl rfl rfl (by rw [mkp_len (by first | omega | (rw [List.length_replicate]; omega))]; (try rw [List.length_replicate]); omega)) ?_
    refine l_nil ?_
    exact f_owes_n (up_cons (d := 38) (up_cons (d := 39) rfl k0) k1) trivial (perm_front 0 rfl)
   rintro fa3 ⟨-,-,-,-,-,-,-,-,-,-,-⟩ ⟨j0,j1,j2,-⟩
   refine f_re (L' := [Sat (po.map (ownV WdF 24)),Sat (fromK (rowK WdF 24 mkWd) 0 pre),rowF WdF 24 xp xc (((mkL mkWd pre.length i) ++ xs.drop i).set i (mkWd pre.length i))]) (by rfl) ?_
   refine f_rebase (d := 0) j0 (f_rebase (d := 3) j1 (f_rebase (d := 4) j2 (f_block (f_then (c_region (lE omi ?_))))))
   refine lv (v := Nx (i + 1)) (e_add rfl rfl (i64n (by omega) (by omega))) (lE oai (l_nil ?_))
   refine f_perm (L' := [Sat (po.map (ownV WdF 24)),rowF WdF 24 xp xc (((mkL mkWd pre.length i) ++ xs.drop i).set i (mkWd pre.length i)),Sat (fromK (rowK WdF 24 mkWd) 0 pre)]) (perm_ix [0,2,1] 3 rfl (by kernel_rfl) (by kernel_rfl)) ?_
   exact f_cut ⟨i + 1,⟨⟨rfl,rfl,rfl⟩,by rw [mkp_step (by omega)],by omega⟩,(show xs.length - (i + 1) < xs.length - i from by omega)⟩
  refine c_exit (f_then_exit (f_then_exit (f_exit (f_block (f_then ?_)))))
  obtain rfl : i = xs.length := by omega
  rw [mkp_done (Nat.le_refl _)]
  refine c_perm (L' := [Sat (fromK (rowK WdF 24 mkWd) 0 pre),rowF WdF 24 xp xc (mkL mkWd pre.length xs.length),Sat (po.map (ownV WdF 24))]) (perm_ix [2,1,0] 3 rfl (by kernel_rfl) (by kernel_rfl)) ?_
  refine c_snocR (Ls' := fromK (rowK WdF 24 mkWd) 0 (pre ++ [(⟨xp,xs.length,xc⟩ : H3)])) (M := [Sat (po.map (ownV WdF 24))]) rfl (snocK (rowK WdF 24 mkWd) (⟨xp,xs.length,xc⟩ : H3) pre) ?_
  refine c_region (lE omi (lv (v := Nx (pre.length + 1)) (e_add rfl rfl (i64n (by omega) (by omega))) (lE oai (l_nil ?_))))
  exact f_cut ⟨((pre ++ [(⟨xp,xs.length,xc⟩ : H3)]),po),⟨⟨rfl,congrArg (fun z : Nat => Nx z) (by rw [List.length_append]; rfl)⟩,rfl,⟨by rw [hpp,hpo,List.append_assoc]; rfl,fun v hv => hbp v (by rw [hpo]; exact List.mem_cons_of_mem _ hv)⟩⟩,(Nat.lt_succ_self po.length)⟩
 refine c_exit (f_then_exit (f_then_exit (f_exit (fts ?_))))
 have hlen : HL.length = pre.length + post.length := by rw [hpp,List.length_append,List.length_map]
 obtain rfl := unnil hlen (by omega)
 obtain rfl : HL = pre := by rw [hpp,List.map_nil,List.append_nil]
 refine c_mask [true,false] rfl (c_region (lE oms (lE oln ?_)))
 refine l_mv rfl rfl rfl (m_makeFl (F := H3F) (x0 := (⟨none,0,0⟩ : H3)) (c := HL.length) tw91 tw96 tw97.ok rfl rfl rfl (by unfold maxLen; omega) (by omega)) ?_
 rintro _ _ ⟨b4,rfl,rfl⟩
 refine lE oas (lnf (cs2 (c_emp (r := Sat (fromK (famK WdF 24 mkWd) 0 [])) trivial ?_)))
 refine c_perm (L' := [Sat (fromK (famK WdF 24 mkWd) 0 []),Sat (fromK (rowK WdF 24 mkWd) 0 HL),rowF H3F 68 (some ⟨b4,0,none⟩) HL.length (List.replicate HL.length (⟨none,0,0⟩ : H3))]) (perm_ix [0,2,1] 3 rfl (by kernel_rfl) (by kernel_rfl)) ?_
 refine c_region (lE oai (lnf (c_block ?_)))
 refine c_loop (fun (x_ : List Z5 × List H3) f L => match x_ with | (zs,post) => (f 0 = sB lsa HL (lsc) ∧ f 5 = sB (some ⟨b4,0,none⟩) HL HL.length ∧ f 6 = Nx (zs.length)) ∧ L = [Sat (fromK (famK WdF 24 mkWd) 0 zs),Sat (fromK (rowK WdF 24 mkWd) zs.length post),rowF H3F 68 (some ⟨b4,0,none⟩) HL.length (zs.map gh3 ++ List.replicate post.length (⟨none,0,0⟩ : H3))] ∧ (HL = zs.map Z5.h ++ post)) (fun (zs,post) => post.length) ([],HL) ?_ ?_
 ·exact ⟨⟨rfl,rfl,rfl⟩,rfl,rfl⟩
 rintro ⟨zs,post⟩ f0 L0 ⟨⟨hs0,hs5,hs6⟩,hL,hpp⟩
 subst L0
 refine rbs 0 hs0 (rbs 5 hs5 (rbs 6 hs6 ?_))
 have hlen : HL.length = zs.length + post.length := by rw [hpp,List.length_append,List.length_map]
 refine cs2 (c_region (lE omi (lE oms (lE oln (lE olt (lnf (c_if _ rfl (fun hc5 => ?_) (fun hc5 => ?_))))))))
 ·refine csk (c_seq (c_block (c_seq ?_)))
  obtain ⟨⟨xp,xn,xc⟩,po,hpo⟩ := uncons hlen (by omega)
  have hx : HL[zs.length]? = some (⟨xp,xn,xc⟩ : H3) := by rw [hpp,hpo]; exact mid_at (List.length_map _).symm
  have hxl : xn ≤ 1000000 := hbd0 _ (List.mem_of_getElem? hx)
  obtain ⟨hxa,cs_,hxc,rfl⟩ := lse _ _ hx
  refine c_perm (L' := [Sat (fromK (rowK WdF 24 mkWd) zs.length post),Sat (fromK (famK WdF 24 mkWd) 0 zs),rowF H3F 68 (some ⟨b4,0,none⟩) HL.length (zs.map gh3 ++ List.replicate post.length (⟨none,0,0⟩ : H3))]) (perm_ix [1,0,2] 3 rfl (by kernel_rfl) (by kernel_rfl)) ?_
  rw [hpo]
  refine c_headR (r := rowF WdF 24 xp xc (mkL mkWd zs.length xn)) (Ls := fromK (rowK WdF 24 mkWd) (zs.length + 1) po) (M := [Sat (fromK (famK WdF 24 mkWd) 0 zs),rowF H3F 68 (some ⟨b4,0,none⟩) HL.length (zs.map gh3 ++ (⟨none,0,0⟩ : H3) :: List.replicate po.length (⟨none,0,0⟩ : H3))]) rfl ?_
  have hpl : post.length = po.length + 1 := by rw [hpo]; rfl
  refine c_region (lE oms (lE omi (lE (oia tw91 hxa) (lv (v := .slice xp (xn) xc) (e_load1 tw92.ok rfl (kB hxc)) (lE oas (lnf (cs2 ?_)))))))
  refine c_conseq 1 (r' := famF WdF 24 xp xc (mkL mkWd zs.length xn) xp xc (mkL mkWd zs.length xn)) rfl famF_start (c_region (lE oai (lnf (c_block ?_))))
  refine c_loop (fun (x_ : Nat × Option Addr × Nat) f L => match x_ with | (i,q,e) => (f 0 = sB lsa HL (lsc) ∧ f 5 = sB (some ⟨b4,0,none⟩) HL HL.length ∧ f 6 = Nx (zs.length) ∧ f 7 = .slice q (xn + i) e ∧ f 8 = Nx (i)) ∧ L = [Sat (fromK (rowK WdF 24 mkWd) (zs.length + 1) po),famF WdF 24 xp xc (mkL mkWd zs.length xn) q e (mkL mkWd zs.length (xn + i)),Sat (fromK (famK WdF 24 mkWd) 0 zs),rowF H3F 68 (some ⟨b4,0,none⟩) HL.length (zs.map gh3 ++ (⟨none,0,0⟩ : H3) :: List.replicate po.length (⟨none,0,0⟩ : H3))] ∧ (i ≤ 64)) (fun (i,q,e) => 64 - i) (0,xp,xc) ?_ ?_
  ·exact ⟨⟨rfl,rfl,rfl,rfl,rfl⟩,rfl,by omega⟩
  rintro ⟨i,q,e⟩ f0 L0 ⟨⟨hs0,hs5,hs6,hs7,hs8⟩,hL,hi⟩
  subst L0
  refine rbs 0 hs0 (rbs 5 hs5 (rbs 6 hs6 (rbs 7 hs7 (rbs 8 hs8 (cs2 (c_region (lE omi (lE olt (lnf (c_if _ rfl (fun hc6 => ?_) (fun hc6 => ?_)))))))))))
  ·refine csk (c_seq (c_block (c_region (lE oms (lE omi (lE oms (lE omi (lE (oia tw91 hxa) ?_))))))))
   refine lv (v := .slice xp (xn) xc) (e_load1 tw92.ok rfl (kB hxc)) (lE oln (lE omi (lE opn ?_)))
   refine lcR clA (fun w β1 sb kn hw1 => markWk_ok β1 w hw1 zs.length (xn + i) (by omega) (by omega)) ?_
   refine l_mv rfl rfl rfl (m_slices tw95 tw45.ok (cells := #[Ix ((mkWd zs.length (xn + i)).tick),.slice ((mkWd zs.length (xn + i)).p) ((mkWd zs.length (xn + i)).n) ((mkWd zs.length (xn + i)).c)]) rfl rfl rfl rfl) ?_
   rintro _ _ ⟨b7,rfl,rfl⟩
   refine l_mv rfl rfl rfl (m_append_famF (F := WdF) 2 tw95 tw98 (q := q) (m := xn + i) (e := e) (zs := [(mkWd zs.length (xn + i))]) (ad := ⟨b7,0,none⟩) (k := 1) (cc := 1) rfl rfl (mkL_len _ _).symm rfl rfl (k_pt 0 rfl rfl) (by omega) (by unfold maxLen; omega) (by omega)) ?_
   rintro _ _ ⟨rp8,rc9,rfl,rfl⟩
   refine lE oas (l_nil (f_block (f_then (c_region (lE omi (lv (v := Nx (i + 1)) (e_add rfl rfl (i64n (by omega) (by omega))) (lE oai (l_nil ?_))))))))
   refine f_mask [false,true,true,true,true] rfl ?_
   exact f_cut ⟨(i + 1,rp8,rc9),⟨⟨rfl,rfl,rfl,rfl,rfl⟩,by rw [mkL_succ] <;> rfl,by omega⟩,(show 64 - (i + 1) < 64 - i from by omega)⟩
  refine c_exit (f_then_exit (f_then_exit (f_exit (f_then (c_region (lE oms (lE omi (lE oms ?_))))))))
  refine lv (v := .pointer (some ((ba (some ⟨b4,0,none⟩)).add (zs.length * 1)))) (e_indexFlN 3 (F := H3F) rfl (by simp only [List.length_append,List.length_map,List.length_replicate,List.length_cons,List.length_set]; omega) rfl tw91 (by omega) rfl) ?_
  refine lu (m_storeFl 3 (F := H3F) (p := (some ⟨b4,0,none⟩)) (k := zs.length) (xs := (zs.map gh3 ++ (⟨none,0,0⟩ : H3) :: List.replicate po.length (⟨none,0,0⟩ : H3))) (z := (⟨q,xn + i,e⟩ : H3)) tw92.ok rfl rfl rfl rfl (by simp only [List.length_append,List.length_map,List.length_replicate,List.length_cons]; omega)) ?_
  refine l_nil (f_block (f_then ?_))
  obtain rfl : i = 64 := by omega
  refine c_perm (L' := [Sat (fromK (famK WdF 24 mkWd) 0 zs),famF WdF 24 xp xc (mkL mkWd zs.length xn) q e (mkL mkWd zs.length (xn + 64)),Sat (fromK (rowK WdF 24 mkWd) (zs.length + 1) po),rowF H3F 68 (some ⟨b4,0,none⟩) HL.length ((zs.map gh3 ++ (⟨none,0,0⟩ : H3) :: List.replicate po.length (⟨none,0,0⟩ : H3)).set zs.length (⟨q,xn + 64,e⟩ : H3))]) (perm_ix [2,1,0,3] 4 rfl (by kernel_rfl) (by kernel_rfl)) ?_
  refine c_re (L' := [Sat (fromK (famK WdF 24 mkWd) 0 zs),famF WdF 24 xp xc (mkL mkWd zs.length xn) q e (mkL mkWd zs.length (xn + 64)),Sat (fromK (rowK WdF 24 mkWd) (zs.length + 1) po),rowF H3F 68 (some ⟨b4,0,none⟩) HL.length ((zs ++ [(⟨(⟨xp,xn,xc⟩ : H3),q,e⟩ : Z5)]).map gh3 ++ List.replicate po.length (⟨none,0,0⟩ : H3))]) (by rw [← gs_set]; rfl) ?_
  refine c_snocR (Ls' := fromK (famK WdF 24 mkWd) 0 (zs ++ [(⟨(⟨xp,xn,xc⟩ : H3),q,e⟩ : Z5)])) (M := [Sat (fromK (rowK WdF 24 mkWd) (zs.length + 1) po),rowF H3F 68 (some ⟨b4,0,none⟩) HL.length ((zs ++ [(⟨(⟨xp,xn,xc⟩ : H3),q,e⟩ : Z5)]).map gh3 ++ List.replicate po.length (⟨none,0,0⟩ : H3))]) rfl (snocK (famK WdF 24 mkWd) (⟨(⟨xp,xn,xc⟩ : H3),q,e⟩ : Z5) zs) ?_
  refine c_region (lE omi (lv (v := Nx (zs.length + 1)) (e_add rfl rfl (i64n (by omega) (by omega))) (lE oai (l_nil ?_))))
  exact f_cut ⟨((zs ++ [⟨(⟨xp,xn,xc⟩ : H3),q,e⟩]),po),⟨⟨rfl,rfl,congrArg (fun z : Nat => Nx z) (by rw [List.length_append]; rfl)⟩,by rw [List.length_append] <;> rfl,by rw [hpp,hpo,List.map_append,List.append_assoc]; rfl⟩,(Nat.lt_succ_self po.length)⟩
 refine c_exit (f_then_exit (f_then_exit (f_exit (fts (c_seq ?_)))))
 have hlen : HL.length = zs.length + post.length := by rw [hpp,List.length_append,List.length_map]
 obtain rfl := unnil hlen (by omega)
 have hz : HL = zs.map Z5.h := by rw [hpp,List.append_nil]
 have hzl : zs.length = HL.length := by rw [hz,List.length_map]
 refine c_re (L' := [Sat (fromK (famK WdF 24 mkWd) 0 zs),Sat (fromK (rowK WdF 24 mkWd) zs.length ([] : List H3)),rowF H3F 68 (some ⟨b4,0,none⟩) HL.length (zs.map gh3)]) (by rw [show List.replicate ([] : List H3).length (⟨none,0,0⟩ : H3) = [] from rfl,List.append_nil]) ?_
 refine c_mask [true,false,true] rfl (c_region (lE oai (lnf (c_block ?_))))
 refine c_loop (fun (k : Nat) f L => (f 0 = sB lsa HL (lsc) ∧ f 5 = sB (some ⟨b4,0,none⟩) HL HL.length ∧ f 9 = Nx (k)) ∧ L = [Sat (fromK (famK WdF 24 mkWd) 0 zs),rowF H3F 68 (some ⟨b4,0,none⟩) HL.length (zs.map gh3)] ∧ (k ≤ HL.length)) (fun k => HL.length - k) 0 ?_ ?_
 ·exact ⟨⟨rfl,rfl,rfl⟩,rfl,by omega⟩
 rintro k f0 L0 ⟨⟨hs0,hs5,hs9⟩,hL,hk⟩
 subst L0
 refine rbs 0 hs0 (rbs 5 hs5 (rbs 9 hs9 (cs2 (c_region (lE omi (lE oms (lE oln (lE olt (lnf (c_if _ rfl (fun hc10 => ?_) (fun hc10 => ?_)))))))))))
 ·refine csk (c_seq (c_block (c_seq ?_)))
  obtain ⟨⟨⟨zp,zn,zc⟩,zq,ze⟩,hzk⟩ : ∃ z_,zs[k]? = some z_ := ⟨_,List.getElem?_eq_getElem (by omega)⟩
  have hx : HL[k]? = some (⟨zp,zn,zc⟩ : H3) := by rw [hz,List.getElem?_map,hzk]; rfl
  have hxl : zn ≤ 1000000 := hbd0 _ (List.mem_of_getElem? hx)
  have hgk : (zs.map gh3)[k]? = some (⟨zq,zn + 64,ze⟩ : H3) := by rw [List.getElem?_map,hzk]; rfl
  obtain ⟨hxa,cs_,hxc,rfl⟩ := lse _ _ hx
  refine c_takeN k (r := famF WdF 24 zp zc (mkL mkWd k zn) zq ze (mkL mkWd k (zn + 64))) (fromK_at0 _ hzk) rfl (c_region (lE oai (lnf (c_block ?_))))
  refine c_loop (fun (i : Nat) f L => (f 0 = sB lsa HL (lsc) ∧ f 5 = sB (some ⟨b4,0,none⟩) HL HL.length ∧ f 9 = Nx (k) ∧ f 10 = Nx (i)) ∧ L = [Sat ((fromK (famK WdF 24 mkWd) 0 zs).eraseIdx k),famF WdF 24 zp zc (mkL mkWd k zn) zq ze (mkL mkWd k (zn + 64)),rowF H3F 68 (some ⟨b4,0,none⟩) HL.length (zs.map gh3)] ∧ (i ≤ zn + 64)) (fun i => zn + 64 - i) 0 ?_ ?_
  ·exact ⟨⟨rfl,rfl,rfl,rfl⟩,rfl,by omega⟩
  rintro i f0 L0 ⟨⟨hs0,hs5,hs9,hs10⟩,hL,hi⟩
  subst L0
  refine rbs 0 hs0 (rbs 5 hs5 (rbs 9 hs9 (rbs 10 hs10 (cs2 (c_region (lE omi (lE oms (lE omi ?_))))))))
  refine lv (v := .pointer (some ((ba (some ⟨b4,0,none⟩)).add (k * 1)))) (e_indexFlN 2 (F := H3F) rfl (by simp only [List.length_append,List.length_map,List.length_replicate,List.length_cons,List.length_set]; omega) rfl tw91 (by omega) rfl) ?_
  refine lv (v := .slice zq (zn + 64) ze) (e_load1 tw92.ok rfl (k_flAt 2 (F := H3F) rfl hgk)) (lE oln (lE olt (lnf ?_)))
  refine c_if _ rfl (fun hc11 => ?_) (fun hc11 => ?_)
  ·refine csk (c_seq (c_block (c_seq (c_quiet (by kernel_rfl) (by kernel_rfl) (qE oms (qE omi ?_))))))
   refine q_val (v := .pointer (some ((ba (some ⟨b4,0,none⟩)).add (k * 1)))) rfl rfl rfl (e_indexFlN 2 (F := H3F) rfl (by simp only [List.length_append,List.length_map,List.length_replicate,List.length_cons,List.length_set]; omega) rfl tw91 (by omega) rfl) ?_
   refine q_val (v := .slice zq (zn + 64) ze) rfl rfl rfl (e_load1 tw92.ok rfl (k_flAt 2 (F := H3F) rfl hgk)) (qE omi ?_)
   refine q_val (v := .pointer (some ((ba zq).add (i * 2)))) rfl rfl rfl (e_indexFam2F 1 (F := WdF) (j := i) (m := zn + 64) rfl (by rw [mkL_len]; omega) rfl tw95 (by omega) rfl) ?_
   refine q_val (v := .agg #[Ix ((mkWd k i).tick),.slice ((mkWd k i).p) ((mkWd k i).n) ((mkWd k i).c)]) rfl rfl rfl (e_load tw48.ok rfl (k_fam2F 1 (F := WdF) (j := i) (x := (mkWd k i)) rfl (mkL_at (by omega))) rfl) ?_
   refine qE omi (qE omi ?_)
   refine q_call (v := .agg #[Ix ((mkWd k i).tick),.slice ((mkWd k i).p) ((mkWd k i).n) ((mkWd k i).c)]) rfl rfl rfl (cl0 (vs := [Nx (k),Nx (i)]) tw94.ok rfl rfl) (fun w hw => ?_) ?_
   ·obtain ⟨β1,sb,kn,hw1,back⟩ := St.frame_all hw
    exact (markWk_ok β1 w hw1 k i (by omega) (by omega)).mono (fun e w' ⟨he,hw'⟩ => ⟨he,st_mask [true,true,true] rfl (back _ _ hw')⟩)
   refine q_call (v := .bool true) rfl rfl rfl (cl0 (vs := [.agg #[Ix ((mkWd k i).tick),.slice ((mkWd k i).p) ((mkWd k i).n) ((mkWd k i).c)],.agg #[Ix ((mkWd k i).tick),.slice ((mkWd k i).p) ((mkWd k i).n) ((mkWd k i).c)]]) tw99.ok rfl rfl) (fun w hw => ?_) ?_
   ·obtain ⟨β1,sb,kn,hw1,back⟩ := St.frame_all hw
    exact (sameWk_ok β1 w hw1 k i).mono (fun e w' ⟨he,hw'⟩ => ⟨he,st_mask [true,true,true] rfl (back _ _ hw')⟩)
   refine qE ont (qE omb (rE omi (rE oms (rE omi (rE (oia tw91 hxa) ?_)))))
   refine qg_val (v := .slice zp (zn) zc) rfl rfl rfl rfl rfl (e_load1 tw92.ok rfl (kB hxc)) (rE oln (rE olt (rE omb ?_)))
   refine q_split (s := 108) rfl (fun hg12 => ?_) (fun hg12 => ?_)
   ·refine rE oms (rE omi (rE (oia tw91 hxa) (qg_val (v := .slice zp (zn) zc) rfl rfl rfl rfl rfl (e_load1 tw92.ok rfl (kB hxc)) (rE omi ?_))))
    refine qg_val (v := .pointer (some ((ba zp).add (i * 2)))) rfl rfl rfl rfl rfl (e_indexFam1F 1 (F := WdF) (j := i) (m := zn) rfl (by rw [mkL_len]; omega) rfl tw95 (by omega) rfl) ?_
    refine qg_val (v := .agg #[Ix ((mkWd k i).tick),.slice ((mkWd k i).p) ((mkWd k i).n) ((mkWd k i).c)]) rfl rfl rfl rfl rfl (e_load tw48.ok rfl (k_fam1F 1 (F := WdF) (j := i) (x := (mkWd k i)) rfl (mkL_at (by omega))) rfl) ?_
    refine rE omi (rE omi ?_)
    refine qg_call (v := .agg #[Ix ((mkWd k i).tick),.slice ((mkWd k i).p) ((mkWd k i).n) ((mkWd k i).c)]) rfl rfl rfl rfl rfl (cl0 (vs := [Nx (k),Nx (i)]) tw94.ok rfl rfl) (fun w hw => ?_) ?_
    ·obtain ⟨β1,sb,kn,hw1,back⟩ := St.frame_all hw
     exact (markWk_ok β1 w hw1 k i (by omega) (by omega)).mono (fun e w' ⟨he,hw'⟩ => ⟨he,st_mask [true,true,true] rfl (back _ _ hw')⟩)
    refine qg_call (v := .bool true) rfl rfl rfl rfl rfl (cl0 (vs := [.agg #[Ix ((mkWd k i).tick),.slice ((mkWd k i).p) ((mkWd k i).n) ((mkWd k i).c)],.agg #[Ix ((mkWd k i).tick),.slice ((mkWd k i).p) ((mkWd k i).n) ((mkWd k i).c)]]) tw99.ok rfl rfl) (fun w hw => ?_) ?_
    ·obtain ⟨β1,sb,kn,hw1,back⟩ := St.frame_all hw
     exact (sameWk_ok β1 w hw1 k i).mono (fun e w' ⟨he,hw'⟩ => ⟨he,st_mask [true,true,true] rfl (back _ _ hw')⟩)
    refine rE ont (rE oktb (qE okfb (q_nil (f_then (c_no rfl (c_skip (f_block (f_then (c_region (lE omi ?_))))))))))
    refine lv (v := Nx (i + 1)) (e_add rfl rfl (i64n (by omega) (by omega))) (lE oai (l_nil ?_))
    exact f_cut ⟨i + 1,⟨⟨rfl,rfl,rfl,rfl⟩,rfl,by omega⟩,(show zn + 64 - (i + 1) < zn + 64 - i from by omega)⟩
   iterate 12 refine qsE ?_
   refine rE okfb (qE okfb (q_nil (f_then (c_no rfl (c_skip (f_block (f_then (c_region (lE omi ?_)))))))))
   refine lv (v := Nx (i + 1)) (e_add rfl rfl (i64n (by omega) (by omega))) (lE oai (l_nil ?_))
   exact f_cut ⟨i + 1,⟨⟨rfl,rfl,rfl,rfl⟩,rfl,by omega⟩,(show zn + 64 - (i + 1) < zn + 64 - i from by omega)⟩
  refine c_exit (f_then_exit (f_then_exit (f_exit (f_block (f_then (c_putN k (fromK_at0 _ hzk) rfl ?_))))))
  refine c_re (L' := [Sat (fromK (famK WdF 24 mkWd) 0 zs),rowF H3F 68 (some ⟨b4,0,none⟩) HL.length (zs.map gh3)]) rfl (c_region (lE omi ?_))
  refine lv (v := Nx (k + 1)) (e_add rfl rfl (i64n (by omega) (by omega))) (lE oai (l_nil ?_))
  exact f_cut ⟨k + 1,⟨⟨rfl,rfl,rfl⟩,rfl,by omega⟩,(show HL.length - (k + 1) < HL.length - k from by omega)⟩
 refine c_exit (f_then_exit (f_then_exit (f_exit (fts (c_seq (c_emp (r := Sat (fromK (famM WdF 24 mkWd HL.length) 0 [])) trivial (c_region (lE oai ?_))))))))
 refine lnf (c_block ?_)
 refine c_loop (fun (x_ : List Z5 × List Z5) f L => match x_ with | (ys,post) => (f 0 = sB lsa HL (lsc) ∧ f 5 = sB (some ⟨b4,0,none⟩) HL HL.length ∧ f 11 = Nx (ys.length)) ∧ L = [Sat (fromK (famM WdF 24 mkWd HL.length) 0 ys),Sat (fromK (famK WdF 24 mkWd) ys.length post),rowF H3F 68 (some ⟨b4,0,none⟩) HL.length (ys.map gh3 ++ post.map gh3)] ∧ (HL = ys.map Z5.h ++ post.map Z5.h)) (fun (ys,post) => post.length) ([],zs) ?_ ?_
 ·exact ⟨⟨rfl,rfl,rfl⟩,rfl,hz⟩
 rintro ⟨ys,post⟩ f0 L0 ⟨⟨hs0,hs5,hs11⟩,hL,hpp⟩
 subst L0
 refine rbs 0 hs0 (rbs 5 hs5 (rbs 11 hs11 ?_))
 have hlen : HL.length = ys.length + post.length := by rw [hpp,List.length_append,List.length_map,List.length_map]
 refine cs2 (c_region (lE omi (lE oms (lE oln (lE olt (lnf (c_if _ rfl (fun hc13 => ?_) (fun hc13 => ?_))))))))
 ·refine csk (c_seq (c_block (c_seq ?_)))
  obtain ⟨⟨⟨zp,zn,zc⟩,zq,ze⟩,po,hpo⟩ := uncons hlen (by omega)
  have hx : HL[ys.length]? = some (⟨zp,zn,zc⟩ : H3) := by rw [hpp,hpo]; exact mid_at (List.length_map _).symm
  have hxl : zn ≤ 1000000 := hbd0 _ (List.mem_of_getElem? hx)
  obtain ⟨hxa,cs_,hxc,rfl⟩ := lse _ _ hx
  refine c_perm (L' := [Sat (fromK (famK WdF 24 mkWd) ys.length post),Sat (fromK (famM WdF 24 mkWd HL.length) 0 ys),rowF H3F 68 (some ⟨b4,0,none⟩) HL.length (ys.map gh3 ++ post.map gh3)]) (perm_ix [1,0,2] 3 rfl (by kernel_rfl) (by kernel_rfl)) ?_
  rw [hpo]
  refine c_headR (r := famF WdF 24 zp zc (mkL mkWd ys.length zn) zq ze (mkL mkWd ys.length (zn + 64))) (Ls := fromK (famK WdF 24 mkWd) (ys.length + 1) po) (M := [Sat (fromK (famM WdF 24 mkWd HL.length) 0 ys),rowF H3F 68 (some ⟨b4,0,none⟩) HL.length (ys.map gh3 ++ ((⟨(⟨zp,zn,zc⟩ : H3),zq,ze⟩ : Z5) :: po).map gh3)]) rfl ?_
  have hpl : post.length = po.length + 1 := by rw [hpo]; rfl
  refine c_region ?_
  refine l_mv rfl rfl rfl (m_makeFl (F := WdF) (x0 := (⟨0,none,0,0⟩ : KWd)) (c := 64) tw95 tw98 tw45.ok rfl rfl rfl (by unfold maxLen; omega) (by omega)) ?_
  rintro _ _ ⟨b14,rfl,rfl⟩
  refine lE oas (lnf (cs2 (c_region (lE oai (lnf (c_block ?_))))))
  refine c_loop (fun (i : Nat) f L => (f 0 = sB lsa HL (lsc) ∧ f 5 = sB (some ⟨b4,0,none⟩) HL HL.length ∧ f 11 = Nx (ys.length) ∧ f 12 = .slice (some ⟨b14,0,none⟩) (64) 64 ∧ f 13 = Nx (i)) ∧ L = [rowF WdF 24 (some ⟨b14,0,none⟩) 64 ((mkL mkWd (ys.length + HL.length) i) ++ (List.replicate 64 (⟨0,none,0,0⟩ : KWd)).drop i),Sat (fromK (famK WdF 24 mkWd) (ys.length + 1) po),famF WdF 24 zp zc (mkL mkWd ys.length zn) zq ze (mkL mkWd ys.length (zn + 64)),Sat (fromK (famM WdF 24 mkWd HL.length) 0 ys),rowF H3F 68 (some ⟨b4,0,none⟩) HL.length (ys.map gh3 ++ ((⟨(⟨zp,zn,zc⟩ : H3),zq,ze⟩ : Z5) :: po).map gh3)] ∧ (i ≤ 64)) (fun i => 64 - i) 0 ?_ ?_
  ·exact ⟨⟨rfl,rfl,rfl,rfl,rfl⟩,by rw [mkp_zero],by omega⟩
  rintro i f0 L0 ⟨⟨hs0,hs5,hs11,hs12,hs13⟩,hL,hi⟩
  subst L0
  refine rbs 0 hs0 (rbs 5 hs5 (rbs 11 hs11 (rbs 12 hs12 (rbs 13 hs13 (cs2 (c_region (lE omi (lE olt (lnf (c_if _ rfl (fun hc15 => ?_) (fun hc15 => ?_)))))))))))
  ·refine csk (c_seq (c_block (c_region (lE oms (lE omi (lE omi (lE oms (lE oln (lE opn (lE omi ?_))))))))))
   refine lcR clA (fun w β1 sb kn hw1 => markWk_ok β1 w hw1 (ys.length + HL.length) i (by omega) (by omega)) ?_
   refine lv (v := .pointer (some ((ba (some ⟨b14,0,none⟩)).add (i * 2)))) (e_indexFlN 0 (F := WdF) rfl (by rw [mkp_len (by rw [List.length_replicate]; omega),List.length_replicate]) rfl tw95 (by omega) rfl) ?_
   refine lu (m_storeFl 0 (F := WdF) (p := (some ⟨b14,0,none⟩)) (k := i) (xs := ((mkL mkWd (ys.length + HL.length) i) ++ (List.replicate 64 (⟨0,none,0,0⟩ : KWd)).drop i)) (z := (mkWd (ys.length + HL.length) i)) tw48.ok rfl rfl rfl rfl (by rw [mkp_len (by first | omega | (rw [List.length_replicate]; omega))]; (try rw [List.length_replicate]); omega)) ?_
   refine l_nil (f_block (f_then (c_region (lE omi (lv (v := Nx (i + 1)) (e_add rfl rfl (i64n (by omega) (by omega))) (lE oai (l_nil ?_)))))))
   exact f_cut ⟨i + 1,⟨⟨rfl,rfl,rfl,rfl,rfl⟩,by rw [mkp_step (by rw [List.length_replicate]; omega)] <;> rfl,by omega⟩,(show 64 - (i + 1) < 64 - i from by omega)⟩
  refine c_exit (f_then_exit (f_then_exit (f_exit (f_then ?_))))
  obtain rfl : i = 64 := by omega
  rw [mkp_done (by rw [List.length_replicate]; omega)]
  refine c_conseq 2 (r' := famF WdF 24 zp zc (mkL mkWd ys.length zn) zp zc (mkL mkWd ys.length zn)) rfl (fun a h => famF_start a (famF_first a h)) ?_
  refine c_region (lE oms (lE omi (lE oms (lE omi (lE (oia tw91 hxa) (lv (v := .slice zp (zn) zc) (e_load1 tw92.ok rfl (kB hxc)) (lE oms ?_)))))))
  refine l_mv rfl rfl rfl (m_append_famF (F := WdF) 2 tw95 tw98 (q := zp) (m := zn) (e := zc) (zs := (mkL mkWd (ys.length + HL.length) 64)) (ad := ⟨b14,0,none⟩) (k := 64) (cc := 64) rfl rfl (mkL_len _ _).symm rfl (mkL_len _ _) (k_rowF_all (p := (some ⟨b14,0,none⟩)) 0 rfl (by rw [mkL_len]; omega)) (by omega) (by unfold maxLen; omega) (by omega)) ?_
  rintro _ _ ⟨rp16,rc17,rfl,rfl⟩
  refine lv (v := .pointer (some ((ba (some ⟨b4,0,none⟩)).add (ys.length * 1)))) (e_indexFlN 4 (F := H3F) rfl (by simp only [List.length_append,List.length_map,List.length_replicate,List.length_cons,List.length_set]; omega) rfl tw91 (by omega) rfl) ?_
  refine lu (m_storeFl 4 (F := H3F) (p := (some ⟨b4,0,none⟩)) (k := ys.length) (xs := (ys.map gh3 ++ ((⟨(⟨zp,zn,zc⟩ : H3),zq,ze⟩ : Z5) :: po).map gh3)) (z := (⟨rp16,zn + 64,rc17⟩ : H3)) tw92.ok rfl rfl rfl rfl (by simp only [List.length_append,List.length_map,List.length_replicate,List.length_cons]; omega)) ?_
  refine l_nil (f_block (f_then ?_))
  obtain ⟨q,hq_⟩ : ∃ z_,z_ = rp16 := ⟨_,rfl⟩
  obtain ⟨e,he_⟩ : ∃ z_,z_ = rc17 := ⟨_,rfl⟩
  rw [← hq_,← he_]
  refine c_perm (L' := [Sat (fromK (famM WdF 24 mkWd HL.length) 0 ys),famF WdF 24 zp zc (mkL mkWd ys.length zn) q e ((mkL mkWd ys.length zn) ++ (mkL mkWd (ys.length + HL.length) 64)),rowF WdF 24 (some ⟨b14,0,none⟩) 64 (mkL mkWd (ys.length + HL.length) 64),Sat (fromK (famK WdF 24 mkWd) (ys.length + 1) po),rowF H3F 68 (some ⟨b4,0,none⟩) HL.length ((ys.map gh3 ++ ((⟨(⟨zp,zn,zc⟩ : H3),zq,ze⟩ : Z5) :: po).map gh3).set ys.length (⟨q,zn + 64,e⟩ : H3))]) (perm_ix [3,2,0,1,4] 5 rfl (by kernel_rfl) (by kernel_rfl)) ?_
  refine c_re (L' := [Sat (fromK (famM WdF 24 mkWd HL.length) 0 ys),famF WdF 24 zp zc (mkL mkWd ys.length zn) q e ((mkL mkWd ys.length zn) ++ (mkL mkWd (ys.length + HL.length) 64)),rowF WdF 24 (some ⟨b14,0,none⟩) 64 (mkL mkWd (ys.length + HL.length) 64),Sat (fromK (famK WdF 24 mkWd) (ys.length + 1) po),rowF H3F 68 (some ⟨b4,0,none⟩) HL.length ((ys ++ [(⟨(⟨zp,zn,zc⟩ : H3),q,e⟩ : Z5)]).map gh3 ++ po.map gh3)]) (by rw [← gs_set2]; rfl) ?_
  refine c_snocR (Ls' := fromK (famM WdF 24 mkWd HL.length) 0 (ys ++ [(⟨(⟨zp,zn,zc⟩ : H3),q,e⟩ : Z5)])) (M := [rowF WdF 24 (some ⟨b14,0,none⟩) 64 (mkL mkWd (ys.length + HL.length) 64),Sat (fromK (famK WdF 24 mkWd) (ys.length + 1) po),rowF H3F 68 (some ⟨b4,0,none⟩) HL.length ((ys ++ [(⟨(⟨zp,zn,zc⟩ : H3),q,e⟩ : Z5)]).map gh3 ++ po.map gh3)]) rfl (snocK (famM WdF 24 mkWd HL.length) (⟨(⟨zp,zn,zc⟩ : H3),q,e⟩ : Z5) ys) ?_
  refine c_mask [true,false,true,true] rfl (c_region (lE omi (lv (v := Nx (ys.length + 1)) (e_add rfl rfl (i64n (by omega) (by omega))) (lE oai ?_))))
  refine l_nil ?_
  exact f_cut ⟨((ys ++ [⟨(⟨zp,zn,zc⟩ : H3),q,e⟩]),po),⟨⟨rfl,rfl,congrArg (fun z : Nat => Nx z) (by rw [List.length_append]; rfl)⟩,by rw [List.length_append] <;> rfl,by rw [hpp,hpo,List.map_append,List.append_assoc]; rfl⟩,(Nat.lt_succ_self po.length)⟩
 refine c_exit (f_then_exit (f_then_exit (f_exit (fts (c_seq ?_)))))
 have hlen : HL.length = ys.length + post.length := by rw [hpp,List.length_append,List.length_map,List.length_map]
 obtain rfl := unnil hlen (by omega)
 have hy : HL = ys.map Z5.h := by rw [hpp,List.map_nil,List.append_nil]
 have hyl : ys.length = HL.length := by rw [hy,List.length_map]
 refine c_re (L' := [Sat (fromK (famM WdF 24 mkWd HL.length) 0 ys),Sat (fromK (famK WdF 24 mkWd) ys.length ([] : List Z5)),rowF H3F 68 (some ⟨b4,0,none⟩) HL.length (ys.map gh3)]) (by rw [List.map_nil,List.append_nil]) ?_
 refine c_mask [true,false,true] rfl (c_region (lE oai (lnf (c_block ?_))))
 refine c_loop (fun (k : Nat) f L => (f 0 = sB lsa HL (lsc) ∧ f 5 = sB (some ⟨b4,0,none⟩) HL HL.length ∧ f 14 = Nx (k)) ∧ L = [Sat (fromK (famM WdF 24 mkWd HL.length) 0 ys),rowF H3F 68 (some ⟨b4,0,none⟩) HL.length (ys.map gh3)] ∧ (k ≤ HL.length)) (fun k => HL.length - k) 0 ?_ ?_
 ·exact ⟨⟨rfl,rfl,rfl⟩,rfl,by omega⟩
 rintro k f0 L0 ⟨⟨hs0,hs5,hs14⟩,hL,hk⟩
 subst L0
 refine rbs 0 hs0 (rbs 5 hs5 (rbs 14 hs14 (cs2 (c_region (lE omi (lE oms (lE oln (lE olt (lnf (c_if _ rfl (fun hc18 => ?_) (fun hc18 => ?_)))))))))))
 ·refine csk (c_seq (c_block (c_seq ?_)))
  obtain ⟨⟨⟨zp,zn,zc⟩,zq,ze⟩,hzk⟩ : ∃ z_,ys[k]? = some z_ := ⟨_,List.getElem?_eq_getElem (by omega)⟩
  have hx : HL[k]? = some (⟨zp,zn,zc⟩ : H3) := by rw [hy,List.getElem?_map,hzk]; rfl
  have hxl : zn ≤ 1000000 := hbd0 _ (List.mem_of_getElem? hx)
  have hgk : (ys.map gh3)[k]? = some (⟨zq,zn + 64,ze⟩ : H3) := by rw [List.getElem?_map,hzk]; rfl
  obtain ⟨hxa,cs_,hxc,rfl⟩ := lse _ _ hx
  refine c_takeN k (r := famF WdF 24 zp zc (mkL mkWd k zn) zq ze ((mkL mkWd k zn) ++ (mkL mkWd (k + HL.length) 64))) (fromK_at0 _ hzk) rfl (c_region ?_)
  refine lE oai (lnf (c_block ?_))
  refine c_loop (fun (i : Nat) f L => (f 0 = sB lsa HL (lsc) ∧ f 5 = sB (some ⟨b4,0,none⟩) HL HL.length ∧ f 14 = Nx (k) ∧ f 15 = Nx (i)) ∧ L = [Sat ((fromK (famM WdF 24 mkWd HL.length) 0 ys).eraseIdx k),famF WdF 24 zp zc (mkL mkWd k zn) zq ze ((mkL mkWd k zn) ++ (mkL mkWd (k + HL.length) 64)),rowF H3F 68 (some ⟨b4,0,none⟩) HL.length (ys.map gh3)] ∧ (i ≤ zn)) (fun i => zn - i) 0 ?_ ?_
  ·exact ⟨⟨rfl,rfl,rfl,rfl⟩,rfl,by omega⟩
  rintro i f0 L0 ⟨⟨hs0,hs5,hs14,hs15⟩,hL,hi⟩
  subst L0
  refine rbs 0 hs0 (rbs 5 hs5 (rbs 14 hs14 (rbs 15 hs15 (cs2 (c_region (lE omi (lE oms (lE omi (lE (oia tw91 hxa) ?_)))))))))
  refine lv (v := .slice zp (zn) zc) (e_load1 tw92.ok rfl (kB hxc)) (lE oln (lE olt (lnf (c_if _ rfl (fun hc19 => ?_) (fun hc19 => ?_)))))
  ·refine csk (c_seq (c_block (c_seq (c_quiet (by kernel_rfl) (by kernel_rfl) (qE oms (qE omi (qE (oia tw91 hxa) ?_)))))))
   refine q_val (v := .slice zp (zn) zc) rfl rfl rfl (e_load1 tw92.ok rfl (kB hxc)) (qE omi ?_)
   refine q_val (v := .pointer (some ((ba zp).add (i * 2)))) rfl rfl rfl (e_indexFam1F 1 (F := WdF) (j := i) (m := zn) rfl (by rw [mkL_len]; omega) rfl tw95 (by omega) rfl) ?_
   refine q_val (v := .agg #[Ix ((mkWd k i).tick),.slice ((mkWd k i).p) ((mkWd k i).n) ((mkWd k i).c)]) rfl rfl rfl (e_load tw48.ok rfl (k_fam1F 1 (F := WdF) (j := i) (x := (mkWd k i)) rfl (mkL_at (by omega))) rfl) ?_
   refine qE omi (qE omi ?_)
   refine q_call (v := .agg #[Ix ((mkWd k i).tick),.slice ((mkWd k i).p) ((mkWd k i).n) ((mkWd k i).c)]) rfl rfl rfl (cl0 (vs := [Nx (k),Nx (i)]) tw94.ok rfl rfl) (fun w hw => ?_) ?_
   ·obtain ⟨β1,sb,kn,hw1,back⟩ := St.frame_all hw
    exact (markWk_ok β1 w hw1 k i (by omega) (by omega)).mono (fun e w' ⟨he,hw'⟩ => ⟨he,st_mask [true,true,true] rfl (back _ _ hw')⟩)
   refine q_call (v := .bool true) rfl rfl rfl (cl0 (vs := [.agg #[Ix ((mkWd k i).tick),.slice ((mkWd k i).p) ((mkWd k i).n) ((mkWd k i).c)],.agg #[Ix ((mkWd k i).tick),.slice ((mkWd k i).p) ((mkWd k i).n) ((mkWd k i).c)]]) tw99.ok rfl rfl) (fun w hw => ?_) ?_
   ·obtain ⟨β1,sb,kn,hw1,back⟩ := St.frame_all hw
    exact (sameWk_ok β1 w hw1 k i).mono (fun e w' ⟨he,hw'⟩ => ⟨he,st_mask [true,true,true] rfl (back _ _ hw')⟩)
   refine qE ont (qE omb (rE oms (rE omi ?_)))
   refine qg_val (v := .pointer (some ((ba (some ⟨b4,0,none⟩)).add (k * 1)))) rfl rfl rfl rfl rfl (e_indexFlN 2 (F := H3F) rfl (by simp only [List.length_append,List.length_map,List.length_replicate,List.length_cons,List.length_set]; omega) rfl tw91 (by omega) rfl) ?_
   refine qg_val (v := .slice zq (zn + 64) ze) rfl rfl rfl rfl rfl (e_load1 tw92.ok rfl (k_flAt 2 (F := H3F) rfl hgk)) (rE omi ?_)
   refine qg_val (v := .pointer (some ((ba zq).add (i * 2)))) rfl rfl rfl rfl rfl (e_indexFam2F 1 (F := WdF) (j := i) (m := zn + 64) rfl (by rw [List.length_append,mkL_len,mkL_len]; omega) rfl tw95 (by omega) rfl) ?_
   refine qg_val (v := .agg #[Ix ((mkWd k i).tick),.slice ((mkWd k i).p) ((mkWd k i).n) ((mkWd k i).c)]) rfl rfl rfl rfl rfl (e_load tw48.ok rfl (k_fam2F 1 (F := WdF) (j := i) (x := (mkWd k i)) rfl (mkL_at2 (by omega))) rfl) ?_
   refine rE omi (rE omi ?_)
   refine qg_call (v := .agg #[Ix ((mkWd k i).tick),.slice ((mkWd k i).p) ((mkWd k i).n) ((mkWd k i).c)]) rfl rfl rfl rfl rfl (cl0 (vs := [Nx (k),Nx (i)]) tw94.ok rfl rfl) (fun w hw => ?_) ?_
   ·obtain ⟨β1,sb,kn,hw1,back⟩ := St.frame_all hw
    exact (markWk_ok β1 w hw1 k i (by omega) (by omega)).mono (fun e w' ⟨he,hw'⟩ => ⟨he,st_mask [true,true,true] rfl (back _ _ hw')⟩)
   refine qg_call (v := .bool true) rfl rfl rfl rfl rfl (cl0 (vs := [.agg #[Ix ((mkWd k i).tick),.slice ((mkWd k i).p) ((mkWd k i).n) ((mkWd k i).c)],.agg #[Ix ((mkWd k i).tick),.slice ((mkWd k i).p) ((mkWd k i).n) ((mkWd k i).c)]]) tw99.ok rfl rfl) (fun w hw => ?_) ?_
   ·obtain ⟨β1,sb,kn,hw1,back⟩ := St.frame_all hw
    exact (sameWk_ok β1 w hw1 k i).mono (fun e w' ⟨he,hw'⟩ => ⟨he,st_mask [true,true,true] rfl (back _ _ hw')⟩)
   refine rE ont (qE okfb (q_nil (f_then (c_no rfl (c_skip (f_block (f_then (c_region (lE omi ?_)))))))))
   refine lv (v := Nx (i + 1)) (e_add rfl rfl (i64n (by omega) (by omega))) (lE oai (l_nil ?_))
   exact f_cut ⟨i + 1,⟨⟨rfl,rfl,rfl,rfl⟩,rfl,by omega⟩,(show zn - (i + 1) < zn - i from by omega)⟩
  refine c_exit (f_then_exit (f_then_exit (f_exit (f_block (f_then (c_putN k (fromK_at0 _ hzk) rfl ?_))))))
  refine c_re (L' := [Sat (fromK (famM WdF 24 mkWd HL.length) 0 ys),rowF H3F 68 (some ⟨b4,0,none⟩) HL.length (ys.map gh3)]) rfl (c_region (lE omi ?_))
  refine lv (v := Nx (k + 1)) (e_add rfl rfl (i64n (by omega) (by omega))) (lE oai (l_nil ?_))
  exact f_cut ⟨k + 1,⟨⟨rfl,rfl,rfl⟩,rfl,by omega⟩,(show HL.length - (k + 1) < HL.length - k from by omega)⟩
 refine c_exit (f_then_exit (f_then_exit (f_exit (ftc (lE oab (lnf (c_ret (ret1 Tryz.results126 rfl ?_))))))))
 intro w hw
 exact ⟨rfl,st_mask [false,false] rfl hw⟩
set_option maxHeartbeats 4000000 in
theorem flatLimbs_nil (β : Base) (w : World) (hw : St β [] w) : Ret Tryz.prog 120 #[.slice none 0 0] β w (.bool true) := by
 refine enter (n := 200) Tryz.func120 rfl Tryz.ntmps120 rfl ?_ hw
 refine csr (lE oab (lnf (cs2 (c_region (lE oai (lnf (c_block (c_unroll 1 (un_succ 0 (cs2 (c_region (lE omi (lE oms (lE oln (lE olt (lnf (c_no rfl ?_)))))))))))))))))
 refine c_exit (f_then_exit (f_then_exit (f_exit (ftc (lE oms (lE oln (l_mv rfl rfl rfl (m_make00 tw101 rfl rfl) ?_)))))))
 rintro _ _ ⟨b1,rfl,rfl⟩
 refine lE oas (lnf (cs2 (c_region (lE oai (lnf (c_block (c_unroll 1 (un_succ 0 (cs2 (c_region (lE omi (lE oms (lE oln (lE olt (lnf (c_no rfl ?_))))))))))))))))
 refine c_exit (f_then_exit (f_then_exit (f_exit (fts (csr (lE oai (lnf (c_block (c_unroll 1 (un_succ 0 (cs2 (c_region (lE omi (lE oms (lE oln ?_)))))))))))))))
 refine lE olt (lnf (c_no rfl (c_exit (f_then_exit (f_then_exit (f_exit (fts (csr (lE oai (lnf (c_block (c_unroll 1 (un_succ 0 (cs2 (c_region ?_)))))))))))))))
 refine lE omi (lE oms (lE oln (lE olt (lnf (c_no rfl (c_exit (f_then_exit (f_then_exit (f_exit (fts (csr (lE oai (lnf (c_block (c_unroll 1 ?_)))))))))))))))
 refine un_succ 0 (cs2 (c_region (lE omi (lE oms (lE oln (lE olt (lnf (c_no rfl (c_exit (f_then_exit (f_then_exit (f_exit (ftc (lE oab (lnf (c_ret ?_))))))))))))))))
 refine ret1 Tryz.results120 rfl ?_
 intro w hw
 exact ⟨rfl,st_mask [false] rfl hw⟩
set_option maxHeartbeats 4000000 in
theorem flatInts_nil (β : Base) (w : World) (hw : St β [] w) : Ret Tryz.prog 121 #[.slice none 0 0] β w (.bool true) := by
 refine enter (n := 193) Tryz.func121 rfl Tryz.ntmps121 rfl ?_ hw
 refine csr (lE oab (lnf (cs2 (c_region (lE oai (lnf (c_block (c_unroll 1 (un_succ 0 (cs2 (c_region (lE omi (lE oms (lE oln (lE olt (lnf (c_no rfl ?_)))))))))))))))))
 refine c_exit (f_then_exit (f_then_exit (f_exit (ftc (lE oms (lE oln (l_mv rfl rfl rfl (m_make00 tw104 rfl rfl) ?_)))))))
 rintro _ _ ⟨b1,rfl,rfl⟩
 refine lE oas (lnf (cs2 (c_region (lE oai (lnf (c_block (c_unroll 1 (un_succ 0 (cs2 (c_region (lE omi (lE oms (lE oln (lE olt (lnf (c_no rfl ?_))))))))))))))))
 refine c_exit (f_then_exit (f_then_exit (f_exit (fts (csr (lE oai (lnf (c_block (c_unroll 1 (un_succ 0 (cs2 (c_region (lE omi (lE oms (lE oln ?_)))))))))))))))
 refine lE olt (lnf (c_no rfl (c_exit (f_then_exit (f_then_exit (f_exit (fts (csr (lE oai (lnf (c_block (c_unroll 1 (un_succ 0 (cs2 (c_region ?_)))))))))))))))
 refine lE omi (lE oms (lE oln (lE olt (lnf (c_no rfl (c_exit (f_then_exit (f_then_exit (f_exit (fts (csr (lE oai (lnf (c_block (c_unroll 1 ?_)))))))))))))))
 refine un_succ 0 (cs2 (c_region (lE omi (lE oms (lE oln (lE olt (lnf (c_no rfl (c_exit (f_then_exit (f_then_exit (f_exit (ftc (lE oab (lnf (c_ret ?_))))))))))))))))
 refine ret1 Tryz.results121 rfl ?_
 intro w hw
 exact ⟨rfl,st_mask [false] rfl hw⟩
set_option maxHeartbeats 4000000 in
theorem flatTexts_nil (β : Base) (w : World) (hw : St β [] w) : Ret Tryz.prog 122 #[.slice none 0 0] β w (.bool true) := by
 refine enter (n := 193) Tryz.func122 rfl Tryz.ntmps122 rfl ?_ hw
 refine csr (lE oab (lnf (cs2 (c_region (lE oai (lnf (c_block (c_unroll 1 (un_succ 0 (cs2 (c_region (lE omi (lE oms (lE oln (lE olt (lnf (c_no rfl ?_)))))))))))))))))
 refine c_exit (f_then_exit (f_then_exit (f_exit (ftc (lE oms (lE oln (l_mv rfl rfl rfl (m_make00 tw107 rfl rfl) ?_)))))))
 rintro _ _ ⟨b1,rfl,rfl⟩
 refine lE oas (lnf (cs2 (c_region (lE oai (lnf (c_block (c_unroll 1 (un_succ 0 (cs2 (c_region (lE omi (lE oms (lE oln (lE olt (lnf (c_no rfl ?_))))))))))))))))
 refine c_exit (f_then_exit (f_then_exit (f_exit (fts (csr (lE oai (lnf (c_block (c_unroll 1 (un_succ 0 (cs2 (c_region (lE omi (lE oms (lE oln ?_)))))))))))))))
 refine lE olt (lnf (c_no rfl (c_exit (f_then_exit (f_then_exit (f_exit (fts (csr (lE oai (lnf (c_block (c_unroll 1 (un_succ 0 (cs2 (c_region ?_)))))))))))))))
 refine lE omi (lE oms (lE oln (lE olt (lnf (c_no rfl (c_exit (f_then_exit (f_then_exit (f_exit (fts (csr (lE oai (lnf (c_block (c_unroll 1 ?_)))))))))))))))
 refine un_succ 0 (cs2 (c_region (lE omi (lE oms (lE oln (lE olt (lnf (c_no rfl (c_exit (f_then_exit (f_then_exit (f_exit (ftc (lE oab (lnf (c_ret ?_))))))))))))))))
 refine ret1 Tryz.results122 rfl ?_
 intro w hw
 exact ⟨rfl,st_mask [false] rfl hw⟩
set_option maxHeartbeats 4000000 in
theorem flatBytes_nil (β : Base) (w : World) (hw : St β [] w) : Ret Tryz.prog 123 #[.slice none 0 0] β w (.bool true) := by
 refine enter (n := 193) Tryz.func123 rfl Tryz.ntmps123 rfl ?_ hw
 refine csr (lE oab (lnf (cs2 (c_region (lE oai (lnf (c_block (c_unroll 1 (un_succ 0 (cs2 (c_region (lE omi (lE oms (lE oln (lE olt (lnf (c_no rfl ?_)))))))))))))))))
 refine c_exit (f_then_exit (f_then_exit (f_exit (ftc (lE oms (lE oln (l_mv rfl rfl rfl (m_make00 tw110 rfl rfl) ?_)))))))
 rintro _ _ ⟨b1,rfl,rfl⟩
 refine lE oas (lnf (cs2 (c_region (lE oai (lnf (c_block (c_unroll 1 (un_succ 0 (cs2 (c_region (lE omi (lE oms (lE oln (lE olt (lnf (c_no rfl ?_))))))))))))))))
 refine c_exit (f_then_exit (f_then_exit (f_exit (fts (csr (lE oai (lnf (c_block (c_unroll 1 (un_succ 0 (cs2 (c_region (lE omi (lE oms (lE oln ?_)))))))))))))))
 refine lE olt (lnf (c_no rfl (c_exit (f_then_exit (f_then_exit (f_exit (fts (csr (lE oai (lnf (c_block (c_unroll 1 (un_succ 0 (cs2 (c_region ?_)))))))))))))))
 refine lE omi (lE oms (lE oln (lE olt (lnf (c_no rfl (c_exit (f_then_exit (f_then_exit (f_exit (fts (csr (lE oai (lnf (c_block (c_unroll 1 ?_)))))))))))))))
 refine un_succ 0 (cs2 (c_region (lE omi (lE oms (lE oln (lE olt (lnf (c_no rfl (c_exit (f_then_exit (f_then_exit (f_exit (ftc (lE oab (lnf (c_ret ?_))))))))))))))))
 refine ret1 Tryz.results123 rfl ?_
 intro w hw
 exact ⟨rfl,st_mask [false] rfl hw⟩
set_option maxHeartbeats 4000000 in
theorem flatVecs_nil (β : Base) (w : World) (hw : St β [] w) : Ret Tryz.prog 127 #[.slice none 0 0] β w (.bool true) := by
 refine enter (n := 193) Tryz.func127 rfl Tryz.ntmps127 rfl ?_ hw
 refine csr (lE oab (lnf (cs2 (c_region (lE oai (lnf (c_block (c_unroll 1 (un_succ 0 (cs2 (c_region (lE omi (lE oms (lE oln (lE olt (lnf (c_no rfl ?_)))))))))))))))))
 refine c_exit (f_then_exit (f_then_exit (f_exit (ftc (lE oms (lE oln (l_mv rfl rfl rfl (m_make00 tw113 rfl rfl) ?_)))))))
 rintro _ _ ⟨b1,rfl,rfl⟩
 refine lE oas (lnf (cs2 (c_region (lE oai (lnf (c_block (c_unroll 1 (un_succ 0 (cs2 (c_region (lE omi (lE oms (lE oln (lE olt (lnf (c_no rfl ?_))))))))))))))))
 refine c_exit (f_then_exit (f_then_exit (f_exit (fts (csr (lE oai (lnf (c_block (c_unroll 1 (un_succ 0 (cs2 (c_region (lE omi (lE oms (lE oln ?_)))))))))))))))
 refine lE olt (lnf (c_no rfl (c_exit (f_then_exit (f_then_exit (f_exit (fts (csr (lE oai (lnf (c_block (c_unroll 1 (un_succ 0 (cs2 (c_region ?_)))))))))))))))
 refine lE omi (lE oms (lE oln (lE olt (lnf (c_no rfl (c_exit (f_then_exit (f_then_exit (f_exit (fts (csr (lE oai (lnf (c_block (c_unroll 1 ?_)))))))))))))))
 refine un_succ 0 (cs2 (c_region (lE omi (lE oms (lE oln (lE olt (lnf (c_no rfl (c_exit (f_then_exit (f_then_exit (f_exit (ftc (lE oab (lnf (c_ret ?_))))))))))))))))
 refine ret1 Tryz.results127 rfl ?_
 intro w hw
 exact ⟨rfl,st_mask [false] rfl hw⟩
set_option maxHeartbeats 4000000 in
theorem flatBodies_nil (β : Base) (w : World) (hw : St β [] w) : Ret Tryz.prog 128 #[.slice none 0 0] β w (.bool true) := by
 refine enter (n := 193) Tryz.func128 rfl Tryz.ntmps128 rfl ?_ hw
 refine csr (lE oab (lnf (cs2 (c_region (lE oai (lnf (c_block (c_unroll 1 (un_succ 0 (cs2 (c_region (lE omi (lE oms (lE oln (lE olt (lnf (c_no rfl ?_)))))))))))))))))
 refine c_exit (f_then_exit (f_then_exit (f_exit (ftc (lE oms (lE oln (l_mv rfl rfl rfl (m_make00 tw116 rfl rfl) ?_)))))))
 rintro _ _ ⟨b1,rfl,rfl⟩
 refine lE oas (lnf (cs2 (c_region (lE oai (lnf (c_block (c_unroll 1 (un_succ 0 (cs2 (c_region (lE omi (lE oms (lE oln (lE olt (lnf (c_no rfl ?_))))))))))))))))
 refine c_exit (f_then_exit (f_then_exit (f_exit (fts (csr (lE oai (lnf (c_block (c_unroll 1 (un_succ 0 (cs2 (c_region (lE omi (lE oms (lE oln ?_)))))))))))))))
 refine lE olt (lnf (c_no rfl (c_exit (f_then_exit (f_then_exit (f_exit (fts (csr (lE oai (lnf (c_block (c_unroll 1 (un_succ 0 (cs2 (c_region ?_)))))))))))))))
 refine lE omi (lE oms (lE oln (lE olt (lnf (c_no rfl (c_exit (f_then_exit (f_then_exit (f_exit (fts (csr (lE oai (lnf (c_block (c_unroll 1 ?_)))))))))))))))
 refine un_succ 0 (cs2 (c_region (lE omi (lE oms (lE oln (lE olt (lnf (c_no rfl (c_exit (f_then_exit (f_then_exit (f_exit (ftc (lE oab (lnf (c_ret ?_))))))))))))))))
 refine ret1 Tryz.results128 rfl ?_
 intro w hw
 exact ⟨rfl,st_mask [false] rfl hw⟩
set_option maxHeartbeats 4000000 in
theorem flatSystems_nil (β : Base) (w : World) (hw : St β [] w) : Ret Tryz.prog 129 #[.slice none 0 0] β w (.bool true) := by
 refine enter (n := 193) Tryz.func129 rfl Tryz.ntmps129 rfl ?_ hw
 refine csr (lE oab (lnf (cs2 (c_region (lE oai (lnf (c_block (c_unroll 1 (un_succ 0 (cs2 (c_region (lE omi (lE oms (lE oln (lE olt (lnf (c_no rfl ?_)))))))))))))))))
 refine c_exit (f_then_exit (f_then_exit (f_exit (ftc (lE oms (lE oln (l_mv rfl rfl rfl (m_make00 tw119 rfl rfl) ?_)))))))
 rintro _ _ ⟨b1,rfl,rfl⟩
 refine lE oas (lnf (cs2 (c_region (lE oai (lnf (c_block (c_unroll 1 (un_succ 0 (cs2 (c_region (lE omi (lE oms (lE oln (lE olt (lnf (c_no rfl ?_))))))))))))))))
 refine c_exit (f_then_exit (f_then_exit (f_exit (fts (csr (lE oai (lnf (c_block (c_unroll 1 (un_succ 0 (cs2 (c_region (lE omi (lE oms (lE oln ?_)))))))))))))))
 refine lE olt (lnf (c_no rfl (c_exit (f_then_exit (f_then_exit (f_exit (fts (csr (lE oai (lnf (c_block (c_unroll 1 (un_succ 0 (cs2 (c_region ?_)))))))))))))))
 refine lE omi (lE oms (lE oln (lE olt (lnf (c_no rfl (c_exit (f_then_exit (f_then_exit (f_exit (fts (csr (lE oai (lnf (c_block (c_unroll 1 ?_)))))))))))))))
 refine un_succ 0 (cs2 (c_region (lE omi (lE oms (lE oln (lE olt (lnf (c_no rfl (c_exit (f_then_exit (f_then_exit (f_exit (ftc (lE oab (lnf (c_ret ?_))))))))))))))))
 refine ret1 Tryz.results129 rfl ?_
 intro w hw
 exact ⟨rfl,st_mask [false] rfl hw⟩
set_option maxHeartbeats 4000000 in
theorem flatInputs_nil (β : Base) (w : World) (hw : St β [] w) : Ret Tryz.prog 130 #[.slice none 0 0] β w (.bool true) := by
 refine enter (n := 193) Tryz.func130 rfl Tryz.ntmps130 rfl ?_ hw
 refine csr (lE oab (lnf (cs2 (c_region (lE oai (lnf (c_block (c_unroll 1 (un_succ 0 (cs2 (c_region (lE omi (lE oms (lE oln (lE olt (lnf (c_no rfl ?_)))))))))))))))))
 refine c_exit (f_then_exit (f_then_exit (f_exit (ftc (lE oms (lE oln (l_mv rfl rfl rfl (m_make00 tw122 rfl rfl) ?_)))))))
 rintro _ _ ⟨b1,rfl,rfl⟩
 refine lE oas (lnf (cs2 (c_region (lE oai (lnf (c_block (c_unroll 1 (un_succ 0 (cs2 (c_region (lE omi (lE oms (lE oln (lE olt (lnf (c_no rfl ?_))))))))))))))))
 refine c_exit (f_then_exit (f_then_exit (f_exit (fts (csr (lE oai (lnf (c_block (c_unroll 1 (un_succ 0 (cs2 (c_region (lE omi (lE oms (lE oln ?_)))))))))))))))
 refine lE olt (lnf (c_no rfl (c_exit (f_then_exit (f_then_exit (f_exit (fts (csr (lE oai (lnf (c_block (c_unroll 1 (un_succ 0 (cs2 (c_region ?_)))))))))))))))
 refine lE omi (lE oms (lE oln (lE olt (lnf (c_no rfl (c_exit (f_then_exit (f_then_exit (f_exit (fts (csr (lE oai (lnf (c_block (c_unroll 1 ?_)))))))))))))))
 refine un_succ 0 (cs2 (c_region (lE omi (lE oms (lE oln (lE olt (lnf (c_no rfl (c_exit (f_then_exit (f_then_exit (f_exit (ftc (lE oab (lnf (c_ret ?_))))))))))))))))
 refine ret1 Tryz.results130 rfl ?_
 intro w hw
 exact ⟨rfl,st_mask [false] rfl hw⟩
set_option maxHeartbeats 4000000 in
theorem flatAreas_nil (β : Base) (w : World) (hw : St β [] w) : Ret Tryz.prog 131 #[.slice none 0 0] β w (.bool true) := by
 refine enter (n := 193) Tryz.func131 rfl Tryz.ntmps131 rfl ?_ hw
 refine csr (lE oab (lnf (cs2 (c_region (lE oai (lnf (c_block (c_unroll 1 (un_succ 0 (cs2 (c_region (lE omi (lE oms (lE oln (lE olt (lnf (c_no rfl ?_)))))))))))))))))
 refine c_exit (f_then_exit (f_then_exit (f_exit (ftc (lE oms (lE oln (l_mv rfl rfl rfl (m_make00 tw125 rfl rfl) ?_)))))))
 rintro _ _ ⟨b1,rfl,rfl⟩
 refine lE oas (lnf (cs2 (c_region (lE oai (lnf (c_block (c_unroll 1 (un_succ 0 (cs2 (c_region (lE omi (lE oms (lE oln (lE olt (lnf (c_no rfl ?_))))))))))))))))
 refine c_exit (f_then_exit (f_then_exit (f_exit (fts (csr (lE oai (lnf (c_block (c_unroll 1 (un_succ 0 (cs2 (c_region (lE omi (lE oms (lE oln ?_)))))))))))))))
 refine lE olt (lnf (c_no rfl (c_exit (f_then_exit (f_then_exit (f_exit (fts (csr (lE oai (lnf (c_block (c_unroll 1 (un_succ 0 (cs2 (c_region ?_)))))))))))))))
 refine lE omi (lE oms (lE oln (lE olt (lnf (c_no rfl (c_exit (f_then_exit (f_then_exit (f_exit (fts (csr (lE oai (lnf (c_block (c_unroll 1 ?_)))))))))))))))
 refine un_succ 0 (cs2 (c_region (lE omi (lE oms (lE oln (lE olt (lnf (c_no rfl (c_exit (f_then_exit (f_then_exit (f_exit (ftc (lE oab (lnf (c_ret ?_))))))))))))))))
 refine ret1 Tryz.results131 rfl ?_
 intro w hw
 exact ⟨rfl,st_mask [false] rfl hw⟩
set_option maxHeartbeats 4000000 in
theorem flatPairs_nil (β : Base) (w : World) (hw : St β [] w) : Ret Tryz.prog 132 #[.slice none 0 0] β w (.bool true) := by
 refine enter (n := 193) Tryz.func132 rfl Tryz.ntmps132 rfl ?_ hw
 refine csr (lE oab (lnf (cs2 (c_region (lE oai (lnf (c_block (c_unroll 1 (un_succ 0 (cs2 (c_region (lE omi (lE oms (lE oln (lE olt (lnf (c_no rfl ?_)))))))))))))))))
 refine c_exit (f_then_exit (f_then_exit (f_exit (ftc (lE oms (lE oln (l_mv rfl rfl rfl (m_make00 tw128 rfl rfl) ?_)))))))
 rintro _ _ ⟨b1,rfl,rfl⟩
 refine lE oas (lnf (cs2 (c_region (lE oai (lnf (c_block (c_unroll 1 (un_succ 0 (cs2 (c_region (lE omi (lE oms (lE oln (lE olt (lnf (c_no rfl ?_))))))))))))))))
 refine c_exit (f_then_exit (f_then_exit (f_exit (fts (csr (lE oai (lnf (c_block (c_unroll 1 (un_succ 0 (cs2 (c_region (lE omi (lE oms (lE oln ?_)))))))))))))))
 refine lE olt (lnf (c_no rfl (c_exit (f_then_exit (f_then_exit (f_exit (fts (csr (lE oai (lnf (c_block (c_unroll 1 (un_succ 0 (cs2 (c_region ?_)))))))))))))))
 refine lE omi (lE oms (lE oln (lE olt (lnf (c_no rfl (c_exit (f_then_exit (f_then_exit (f_exit (fts (csr (lE oai (lnf (c_block (c_unroll 1 ?_)))))))))))))))
 refine un_succ 0 (cs2 (c_region (lE omi (lE oms (lE oln (lE olt (lnf (c_no rfl (c_exit (f_then_exit (f_then_exit (f_exit (ftc (lE oab (lnf (c_ret ?_))))))))))))))))
 refine ret1 Tryz.results132 rfl ?_
 intro w hw
 exact ⟨rfl,st_mask [false] rfl hw⟩
set_option maxHeartbeats 4000000 in
theorem flatRopes_nil (β : Base) (w : World) (hw : St β [] w) : Ret Tryz.prog 133 #[.slice none 0 0] β w (.bool true) := by
 refine enter (n := 193) Tryz.func133 rfl Tryz.ntmps133 rfl ?_ hw
 refine csr (lE oab (lnf (cs2 (c_region (lE oai (lnf (c_block (c_unroll 1 (un_succ 0 (cs2 (c_region (lE omi (lE oms (lE oln (lE olt (lnf (c_no rfl ?_)))))))))))))))))
 refine c_exit (f_then_exit (f_then_exit (f_exit (ftc (lE oms (lE oln (l_mv rfl rfl rfl (m_make00 tw131 rfl rfl) ?_)))))))
 rintro _ _ ⟨b1,rfl,rfl⟩
 refine lE oas (lnf (cs2 (c_region (lE oai (lnf (c_block (c_unroll 1 (un_succ 0 (cs2 (c_region (lE omi (lE oms (lE oln (lE olt (lnf (c_no rfl ?_))))))))))))))))
 refine c_exit (f_then_exit (f_then_exit (f_exit (fts (csr (lE oai (lnf (c_block (c_unroll 1 (un_succ 0 (cs2 (c_region (lE omi (lE oms (lE oln ?_)))))))))))))))
 refine lE olt (lnf (c_no rfl (c_exit (f_then_exit (f_then_exit (f_exit (fts (csr (lE oai (lnf (c_block (c_unroll 1 (un_succ 0 (cs2 (c_region ?_)))))))))))))))
 refine lE omi (lE oms (lE oln (lE olt (lnf (c_no rfl (c_exit (f_then_exit (f_then_exit (f_exit (fts (csr (lE oai (lnf (c_block (c_unroll 1 ?_)))))))))))))))
 refine un_succ 0 (cs2 (c_region (lE omi (lE oms (lE oln (lE olt (lnf (c_no rfl (c_exit (f_then_exit (f_then_exit (f_exit (ftc (lE oab (lnf (c_ret ?_))))))))))))))))
 refine ret1 Tryz.results133 rfl ?_
 intro w hw
 exact ⟨rfl,st_mask [false] rfl hw⟩
set_option maxHeartbeats 4000000 in
theorem flatExprs_nil (β : Base) (w : World) (hw : St β [] w) : Ret Tryz.prog 134 #[.slice none 0 0] β w (.bool true) := by
 refine enter (n := 193) Tryz.func134 rfl Tryz.ntmps134 rfl ?_ hw
 refine csr (lE oab (lnf (cs2 (c_region (lE oai (lnf (c_block (c_unroll 1 (un_succ 0 (cs2 (c_region (lE omi (lE oms (lE oln (lE olt (lnf (c_no rfl ?_)))))))))))))))))
 refine c_exit (f_then_exit (f_then_exit (f_exit (ftc (lE oms (lE oln (l_mv rfl rfl rfl (m_make00 tw134 rfl rfl) ?_)))))))
 rintro _ _ ⟨b1,rfl,rfl⟩
 refine lE oas (lnf (cs2 (c_region (lE oai (lnf (c_block (c_unroll 1 (un_succ 0 (cs2 (c_region (lE omi (lE oms (lE oln (lE olt (lnf (c_no rfl ?_))))))))))))))))
 refine c_exit (f_then_exit (f_then_exit (f_exit (fts (csr (lE oai (lnf (c_block (c_unroll 1 (un_succ 0 (cs2 (c_region (lE omi (lE oms (lE oln ?_)))))))))))))))
 refine lE olt (lnf (c_no rfl (c_exit (f_then_exit (f_then_exit (f_exit (fts (csr (lE oai (lnf (c_block (c_unroll 1 (un_succ 0 (cs2 (c_region ?_)))))))))))))))
 refine lE omi (lE oms (lE oln (lE olt (lnf (c_no rfl (c_exit (f_then_exit (f_then_exit (f_exit (fts (csr (lE oai (lnf (c_block (c_unroll 1 ?_)))))))))))))))
 refine un_succ 0 (cs2 (c_region (lE omi (lE oms (lE oln (lE olt (lnf (c_no rfl (c_exit (f_then_exit (f_then_exit (f_exit (ftc (lE oab (lnf (c_ret ?_))))))))))))))))
 refine ret1 Tryz.results134 rfl ?_
 intro w hw
 exact ⟨rfl,st_mask [false] rfl hw⟩
set_option maxHeartbeats 4000000 in
theorem flatStmts_nil (β : Base) (w : World) (hw : St β [] w) : Ret Tryz.prog 135 #[.slice none 0 0] β w (.bool true) := by
 refine enter (n := 193) Tryz.func135 rfl Tryz.ntmps135 rfl ?_ hw
 refine csr (lE oab (lnf (cs2 (c_region (lE oai (lnf (c_block (c_unroll 1 (un_succ 0 (cs2 (c_region (lE omi (lE oms (lE oln (lE olt (lnf (c_no rfl ?_)))))))))))))))))
 refine c_exit (f_then_exit (f_then_exit (f_exit (ftc (lE oms (lE oln (l_mv rfl rfl rfl (m_make00 tw137 rfl rfl) ?_)))))))
 rintro _ _ ⟨b1,rfl,rfl⟩
 refine lE oas (lnf (cs2 (c_region (lE oai (lnf (c_block (c_unroll 1 (un_succ 0 (cs2 (c_region (lE omi (lE oms (lE oln (lE olt (lnf (c_no rfl ?_))))))))))))))))
 refine c_exit (f_then_exit (f_then_exit (f_exit (fts (csr (lE oai (lnf (c_block (c_unroll 1 (un_succ 0 (cs2 (c_region (lE omi (lE oms (lE oln ?_)))))))))))))))
 refine lE olt (lnf (c_no rfl (c_exit (f_then_exit (f_then_exit (f_exit (fts (csr (lE oai (lnf (c_block (c_unroll 1 (un_succ 0 (cs2 (c_region ?_)))))))))))))))
 refine lE omi (lE oms (lE oln (lE olt (lnf (c_no rfl (c_exit (f_then_exit (f_then_exit (f_exit (fts (csr (lE oai (lnf (c_block (c_unroll 1 ?_)))))))))))))))
 refine un_succ 0 (cs2 (c_region (lE omi (lE oms (lE oln (lE olt (lnf (c_no rfl (c_exit (f_then_exit (f_then_exit (f_exit (ftc (lE oab (lnf (c_ret ?_))))))))))))))))
 refine ret1 Tryz.results135 rfl ?_
 intro w hw
 exact ⟨rfl,st_mask [false] rfl hw⟩
set_option maxHeartbeats 4000000 in
theorem flatScenes_nil (β : Base) (w : World) (hw : St β [] w) : Ret Tryz.prog 136 #[.slice none 0 0] β w (.bool true) := by
 refine enter (n := 193) Tryz.func136 rfl Tryz.ntmps136 rfl ?_ hw
 refine csr (lE oab (lnf (cs2 (c_region (lE oai (lnf (c_block (c_unroll 1 (un_succ 0 (cs2 (c_region (lE omi (lE oms (lE oln (lE olt (lnf (c_no rfl ?_)))))))))))))))))
 refine c_exit (f_then_exit (f_then_exit (f_exit (ftc (lE oms (lE oln (l_mv rfl rfl rfl (m_make00 tw140 rfl rfl) ?_)))))))
 rintro _ _ ⟨b1,rfl,rfl⟩
 refine lE oas (lnf (cs2 (c_region (lE oai (lnf (c_block (c_unroll 1 (un_succ 0 (cs2 (c_region (lE omi (lE oms (lE oln (lE olt (lnf (c_no rfl ?_))))))))))))))))
 refine c_exit (f_then_exit (f_then_exit (f_exit (fts (csr (lE oai (lnf (c_block (c_unroll 1 (un_succ 0 (cs2 (c_region (lE omi (lE oms (lE oln ?_)))))))))))))))
 refine lE olt (lnf (c_no rfl (c_exit (f_then_exit (f_then_exit (f_exit (fts (csr (lE oai (lnf (c_block (c_unroll 1 (un_succ 0 (cs2 (c_region ?_)))))))))))))))
 refine lE omi (lE oms (lE oln (lE olt (lnf (c_no rfl (c_exit (f_then_exit (f_then_exit (f_exit (fts (csr (lE oai (lnf (c_block (c_unroll 1 ?_)))))))))))))))
 refine un_succ 0 (cs2 (c_region (lE omi (lE oms (lE oln (lE olt (lnf (c_no rfl (c_exit (f_then_exit (f_then_exit (f_exit (ftc (lE oab (lnf (c_ret ?_))))))))))))))))
 refine ret1 Tryz.results136 rfl ?_
 intro w hw
 exact ⟨rfl,st_mask [false] rfl hw⟩
set_option maxHeartbeats 4000000 in
theorem flatStops_nil (β : Base) (w : World) (hw : St β [] w) : Ret Tryz.prog 137 #[.slice none 0 0] β w (.bool true) := by
 refine enter (n := 193) Tryz.func137 rfl Tryz.ntmps137 rfl ?_ hw
 refine csr (lE oab (lnf (cs2 (c_region (lE oai (lnf (c_block (c_unroll 1 (un_succ 0 (cs2 (c_region (lE omi (lE oms (lE oln (lE olt (lnf (c_no rfl ?_)))))))))))))))))
 refine c_exit (f_then_exit (f_then_exit (f_exit (ftc (lE oms (lE oln (l_mv rfl rfl rfl (m_make00 tw143 rfl rfl) ?_)))))))
 rintro _ _ ⟨b1,rfl,rfl⟩
 refine lE oas (lnf (cs2 (c_region (lE oai (lnf (c_block (c_unroll 1 (un_succ 0 (cs2 (c_region (lE omi (lE oms (lE oln (lE olt (lnf (c_no rfl ?_))))))))))))))))
 refine c_exit (f_then_exit (f_then_exit (f_exit (fts (csr (lE oai (lnf (c_block (c_unroll 1 (un_succ 0 (cs2 (c_region (lE omi (lE oms (lE oln ?_)))))))))))))))
 refine lE olt (lnf (c_no rfl (c_exit (f_then_exit (f_then_exit (f_exit (fts (csr (lE oai (lnf (c_block (c_unroll 1 (un_succ 0 (cs2 (c_region ?_)))))))))))))))
 refine lE omi (lE oms (lE oln (lE olt (lnf (c_no rfl (c_exit (f_then_exit (f_then_exit (f_exit (fts (csr (lE oai (lnf (c_block (c_unroll 1 ?_)))))))))))))))
 refine un_succ 0 (cs2 (c_region (lE omi (lE oms (lE oln (lE olt (lnf (c_no rfl (c_exit (f_then_exit (f_then_exit (f_exit (ftc (lE oab (lnf (c_ret ?_))))))))))))))))
 refine ret1 Tryz.results137 rfl ?_
 intro w hw
 exact ⟨rfl,st_mask [false] rfl hw⟩
set_option maxHeartbeats 4000000 in
theorem flatPortals_nil (β : Base) (w : World) (hw : St β [] w) : Ret Tryz.prog 138 #[.slice none 0 0] β w (.bool true) := by
 refine enter (n := 193) Tryz.func138 rfl Tryz.ntmps138 rfl ?_ hw
 refine csr (lE oab (lnf (cs2 (c_region (lE oai (lnf (c_block (c_unroll 1 (un_succ 0 (cs2 (c_region (lE omi (lE oms (lE oln (lE olt (lnf (c_no rfl ?_)))))))))))))))))
 refine c_exit (f_then_exit (f_then_exit (f_exit (ftc (lE oms (lE oln (l_mv rfl rfl rfl (m_make00 tw146 rfl rfl) ?_)))))))
 rintro _ _ ⟨b1,rfl,rfl⟩
 refine lE oas (lnf (cs2 (c_region (lE oai (lnf (c_block (c_unroll 1 (un_succ 0 (cs2 (c_region (lE omi (lE oms (lE oln (lE olt (lnf (c_no rfl ?_))))))))))))))))
 refine c_exit (f_then_exit (f_then_exit (f_exit (fts (csr (lE oai (lnf (c_block (c_unroll 1 (un_succ 0 (cs2 (c_region (lE omi (lE oms (lE oln ?_)))))))))))))))
 refine lE olt (lnf (c_no rfl (c_exit (f_then_exit (f_then_exit (f_exit (fts (csr (lE oai (lnf (c_block (c_unroll 1 (un_succ 0 (cs2 (c_region ?_)))))))))))))))
 refine lE omi (lE oms (lE oln (lE olt (lnf (c_no rfl (c_exit (f_then_exit (f_then_exit (f_exit (fts (csr (lE oai (lnf (c_block (c_unroll 1 ?_)))))))))))))))
 refine un_succ 0 (cs2 (c_region (lE omi (lE oms (lE oln (lE olt (lnf (c_no rfl (c_exit (f_then_exit (f_then_exit (f_exit (ftc (lE oab (lnf (c_ret ?_))))))))))))))))
 refine ret1 Tryz.results138 rfl ?_
 intro w hw
 exact ⟨rfl,st_mask [false] rfl hw⟩
set_option maxHeartbeats 4000000 in
theorem flatStores_nil (β : Base) (w : World) (hw : St β [] w) : Ret Tryz.prog 139 #[.slice none 0 0] β w (.bool true) := by
 refine enter (n := 193) Tryz.func139 rfl Tryz.ntmps139 rfl ?_ hw
 refine csr (lE oab (lnf (cs2 (c_region (lE oai (lnf (c_block (c_unroll 1 (un_succ 0 (cs2 (c_region (lE omi (lE oms (lE oln (lE olt (lnf (c_no rfl ?_)))))))))))))))))
 refine c_exit (f_then_exit (f_then_exit (f_exit (ftc (lE oms (lE oln (l_mv rfl rfl rfl (m_make00 tw149 rfl rfl) ?_)))))))
 rintro _ _ ⟨b1,rfl,rfl⟩
 refine lE oas (lnf (cs2 (c_region (lE oai (lnf (c_block (c_unroll 1 (un_succ 0 (cs2 (c_region (lE omi (lE oms (lE oln (lE olt (lnf (c_no rfl ?_))))))))))))))))
 refine c_exit (f_then_exit (f_then_exit (f_exit (fts (csr (lE oai (lnf (c_block (c_unroll 1 (un_succ 0 (cs2 (c_region (lE omi (lE oms (lE oln ?_)))))))))))))))
 refine lE olt (lnf (c_no rfl (c_exit (f_then_exit (f_then_exit (f_exit (fts (csr (lE oai (lnf (c_block (c_unroll 1 (un_succ 0 (cs2 (c_region ?_)))))))))))))))
 refine lE omi (lE oms (lE oln (lE olt (lnf (c_no rfl (c_exit (f_then_exit (f_then_exit (f_exit (fts (csr (lE oai (lnf (c_block (c_unroll 1 ?_)))))))))))))))
 refine un_succ 0 (cs2 (c_region (lE omi (lE oms (lE oln (lE olt (lnf (c_no rfl (c_exit (f_then_exit (f_then_exit (f_exit (ftc (lE oab (lnf (c_ret ?_))))))))))))))))
 refine ret1 Tryz.results139 rfl ?_
 intro w hw
 exact ⟨rfl,st_mask [false] rfl hw⟩
end Go.Proofs
