/-
 The bag of two worlds. Printed by a program of my own.
-/
import Derived.Test.YtdkibofhppgbjaaGreatDoorWd4
import Derived.Test.YtdkibofhppgbjaaGreatDoorSlB
namespace Go.Stp
open Go.Sl Go.Proofs
def KHd.h3 (h : KHd) : H3 := ⟨h.p, h.n, h.c⟩
def KWd.h3 (h : KWd) : H3 := ⟨h.p, h.n, h.c⟩
theorem sat_app {α : Type} {F : Fl α} {T : Nat} {cv dv : List (HV α)} : ∀ a, Sat [Sat (cv.map (ownV F T)), Sat (dv.map (ownV F T))] a → Sat ((cv ++ dv).map (ownV F T)) a := fun a ⟨b, d, h1, h2, h3, h4, b2, _, _, h6, _, h7, _⟩ => by
 rw [List.map_append]; exact Sat.append.2 ⟨b,d,h1,h2,h3,h4,h7.mono h6⟩
theorem mem2 {α : Type} {P : α → Prop} {a b : α} (ha : P a) (hb : P b) : ∀ v ∈ [a, b], P v := fun v h => by
 rcases List.mem_cons.1 h with e | e
 ·rw [e]; exact ha
 rw [List.mem_singleton.1 e]; exact hb
theorem tk_map {hs : List H3} {l : List KHd} {k : Nat} {x : KHd} (hx : l[k]? = some x) : hs ++ (l.take k).map KHd.h3 ++ [(⟨x.p, x.n, x.c⟩ : H3)] = hs ++ (l.take (k + 1)).map KHd.h3 := by
 rw [List.take_add_one,hx,List.map_append,List.append_assoc]; rfl
end Go.Stp
namespace Go.Proofs
open Go Go.Sl Go.Stp
instance tw151 : FldC Tryz.prog 149 4 4 1 false := ⟨by kernel_rfl⟩
instance tw152 : TyC Tryz.prog 133 false 1 := ⟨by kernel_rfl⟩
instance tw153 : CfC Tryz.prog 238 := ⟨by kernel_rfl⟩
instance tw154 : FldC Tryz.prog 149 5 5 1 false := ⟨by kernel_rfl⟩
instance tw155 : TyC Tryz.prog 134 false 1 := ⟨by kernel_rfl⟩
instance tw156 : CfC Tryz.prog 214 := ⟨by kernel_rfl⟩
instance tw157 : CfC Tryz.prog 181 := ⟨by kernel_rfl⟩
instance tw158 : FldC Tryz.prog 149 6 6 1 false := ⟨by kernel_rfl⟩
instance tw159 : TyC Tryz.prog 69 false 1 := ⟨by kernel_rfl⟩
instance tw160 : CfC Tryz.prog 119 := ⟨by kernel_rfl⟩
instance tw161 : FldC Tryz.prog 149 0 0 1 false := ⟨by kernel_rfl⟩
instance tw162 : TyC Tryz.prog 130 false 1 := ⟨by kernel_rfl⟩
instance tw163 : CfC Tryz.prog 120 := ⟨by kernel_rfl⟩
instance tw164 : FldC Tryz.prog 149 1 1 1 false := ⟨by kernel_rfl⟩
instance tw165 : TyC Tryz.prog 42 false 1 := ⟨by kernel_rfl⟩
instance tw166 : CfC Tryz.prog 121 := ⟨by kernel_rfl⟩
instance tw167 : FldC Tryz.prog 149 2 2 1 false := ⟨by kernel_rfl⟩
instance tw168 : TyC Tryz.prog 131 false 1 := ⟨by kernel_rfl⟩
instance tw169 : CfC Tryz.prog 122 := ⟨by kernel_rfl⟩
instance tw170 : FldC Tryz.prog 149 3 3 1 false := ⟨by kernel_rfl⟩
instance tw171 : TyC Tryz.prog 132 false 1 := ⟨by kernel_rfl⟩
instance tw172 : CfC Tryz.prog 123 := ⟨by kernel_rfl⟩
instance tw173 : CfC Tryz.prog 124 := ⟨by kernel_rfl⟩
instance tw174 : CfC Tryz.prog 125 := ⟨by kernel_rfl⟩
instance tw175 : CfC Tryz.prog 126 := ⟨by kernel_rfl⟩
instance tw176 : FldC Tryz.prog 149 7 7 1 false := ⟨by kernel_rfl⟩
instance tw177 : TyC Tryz.prog 135 false 1 := ⟨by kernel_rfl⟩
instance tw178 : CfC Tryz.prog 127 := ⟨by kernel_rfl⟩
instance tw179 : FldC Tryz.prog 149 8 8 1 false := ⟨by kernel_rfl⟩
instance tw180 : TyC Tryz.prog 136 false 1 := ⟨by kernel_rfl⟩
instance tw181 : CfC Tryz.prog 128 := ⟨by kernel_rfl⟩
instance tw182 : FldC Tryz.prog 149 9 9 1 false := ⟨by kernel_rfl⟩
instance tw183 : TyC Tryz.prog 137 false 1 := ⟨by kernel_rfl⟩
instance tw184 : CfC Tryz.prog 129 := ⟨by kernel_rfl⟩
instance tw185 : FldC Tryz.prog 149 10 10 1 false := ⟨by kernel_rfl⟩
instance tw186 : TyC Tryz.prog 138 false 1 := ⟨by kernel_rfl⟩
instance tw187 : CfC Tryz.prog 130 := ⟨by kernel_rfl⟩
instance tw188 : FldC Tryz.prog 149 11 11 1 false := ⟨by kernel_rfl⟩
instance tw189 : TyC Tryz.prog 139 false 1 := ⟨by kernel_rfl⟩
instance tw190 : CfC Tryz.prog 131 := ⟨by kernel_rfl⟩
instance tw191 : FldC Tryz.prog 149 12 12 1 false := ⟨by kernel_rfl⟩
instance tw192 : TyC Tryz.prog 140 false 1 := ⟨by kernel_rfl⟩
instance tw193 : CfC Tryz.prog 132 := ⟨by kernel_rfl⟩
instance tw194 : FldC Tryz.prog 149 13 13 1 false := ⟨by kernel_rfl⟩
instance tw195 : TyC Tryz.prog 141 false 1 := ⟨by kernel_rfl⟩
instance tw196 : CfC Tryz.prog 133 := ⟨by kernel_rfl⟩
instance tw197 : FldC Tryz.prog 149 14 14 1 false := ⟨by kernel_rfl⟩
instance tw198 : TyC Tryz.prog 142 false 1 := ⟨by kernel_rfl⟩
instance tw199 : CfC Tryz.prog 134 := ⟨by kernel_rfl⟩
instance tw200 : FldC Tryz.prog 149 15 15 1 false := ⟨by kernel_rfl⟩
instance tw201 : TyC Tryz.prog 143 false 1 := ⟨by kernel_rfl⟩
instance tw202 : CfC Tryz.prog 135 := ⟨by kernel_rfl⟩
instance tw203 : FldC Tryz.prog 149 16 16 1 false := ⟨by kernel_rfl⟩
instance tw204 : TyC Tryz.prog 144 false 1 := ⟨by kernel_rfl⟩
instance tw205 : CfC Tryz.prog 136 := ⟨by kernel_rfl⟩
instance tw206 : FldC Tryz.prog 149 17 17 1 false := ⟨by kernel_rfl⟩
instance tw207 : TyC Tryz.prog 145 false 1 := ⟨by kernel_rfl⟩
instance tw208 : CfC Tryz.prog 137 := ⟨by kernel_rfl⟩
instance tw209 : FldC Tryz.prog 149 18 18 1 false := ⟨by kernel_rfl⟩
instance tw210 : TyC Tryz.prog 146 false 1 := ⟨by kernel_rfl⟩
instance tw211 : CfC Tryz.prog 138 := ⟨by kernel_rfl⟩
instance tw212 : FldC Tryz.prog 149 19 19 1 false := ⟨by kernel_rfl⟩
instance tw213 : TyC Tryz.prog 147 false 1 := ⟨by kernel_rfl⟩
instance tw214 : CfC Tryz.prog 139 := ⟨by kernel_rfl⟩
theorem tw215 : stB Tryz.prog 149 [(0, 1), (1, 1), (2, 1), (3, 1), (4, 1), (5, 1), (6, 1), (7, 1), (8, 1), (9, 1), (10, 1), (11, 1), (12, 1), (13, 1), (14, 1), (15, 1), (16, 1), (17, 1), (18, 1), (19, 1)] = true := by kernel_rfl
instance tw216 : ZerC Tryz.prog 149 (.agg #[.slice none 0 0, .slice none 0 0, .slice none 0 0, .slice none 0 0, .slice none 0 0, .slice none 0 0, .slice none 0 0, .slice none 0 0, .slice none 0 0, .slice none 0 0, .slice none 0 0, .slice none 0 0, .slice none 0 0, .slice none 0 0, .slice none 0 0, .slice none 0 0, .slice none 0 0, .slice none 0 0, .slice none 0 0, .slice none 0 0]) := ⟨by kernel_rfl⟩
instance tw217 : CfC Tryz.prog 76 := ⟨by kernel_rfl⟩
instance tw218 : CfC Tryz.prog 77 := ⟨by kernel_rfl⟩
theorem putC_ok (β : Base) (w : World) (b : Nat) (p : Option Addr) (c : Nat) (hs : List H3) (hn : hs.length ≤ 1000) (xe xw : Value) (vp : Option Addr) (vn vc : Nat) (hw : St β [pt b (.cells #[.slice none 0 0, .slice none 0 0, .slice none 0 0, .slice none 0 0, sB p hs c, xe, xw, .slice none 0 0, .slice none 0 0, .slice none 0 0, .slice none 0 0, .slice none 0 0, .slice none 0 0, .slice none 0 0, .slice none 0 0, .slice none 0 0, .slice none 0 0, .slice none 0 0, .slice none 0 0, .slice none 0 0] 149), rowF H3F 57 p c hs] w) : Calls Tryz.prog 238 #[pp b 0, .slice vp vn vc] w fun r w' => ∃ p' c', r = .returned (.tuple #[]) ∧ St β [pt b (.cells #[.slice none 0 0, .slice none 0 0, .slice none 0 0, .slice none 0 0, sB p' (hs ++ [(⟨vp, vn, vc⟩ : H3)]) c', xe, xw, .slice none 0 0, .slice none 0 0, .slice none 0 0, .slice none 0 0, .slice none 0 0, .slice none 0 0, .slice none 0 0, .slice none 0 0, .slice none 0 0, .slice none 0 0, .slice none 0 0, .slice none 0 0, .slice none 0 0] 149), rowF H3F 57 p' c' (hs ++ [(⟨vp, vn, vc⟩ : H3)])] w' := by
 refine enter (n := 14) Tryz.func238 rfl Tryz.ntmps238 rfl ?_ hw
 refine c_region (lE omp (lE omp (lE onp (lE ofp (lE (ols 0) (lE oms ?_))))))
 refine l_mv rfl rfl rfl (m_slices tw79 tw81.ok (cells := #[.slice vp (vn) vc]) rfl rfl rfl rfl) ?_
 rintro _ _ ⟨b1,rfl,rfl⟩
 refine l_mv rfl rfl rfl (m_appendFlN (F := H3F) 2 tw79 tw80 (p := p) (m := hs.length) (xs := hs) (ys := [(⟨vp,vn,vc⟩ : H3)]) (ao := (some ⟨b1,0,none⟩)) (k := 1) (c := 1) rfl rfl rfl rfl rfl (k_ptFl (z := (⟨vp,vn,vc⟩ : H3)) 0 rfl rfl) (by first | omega | simp only [List.length_nil,List.length_cons,List.length_append,List.length_set]; omega) (by first | omega | simp only [List.length_nil,List.length_cons,List.length_append,List.length_set]; omega)) ?_
 rintro _ _ ⟨rp2,rc3,rfl,rfl⟩
 refine lE onp (lE ofp ?_)
 refine lu (mS 1 (#[.slice none 0 0,.slice none 0 0,.slice none 0 0,.slice none 0 0,sB rp2 (hs ++ [(⟨vp,vn,vc⟩ : H3)]) rc3,xe,xw,.slice none 0 0,.slice none 0 0,.slice none 0 0,.slice none 0 0,.slice none 0 0,.slice none 0 0,.slice none 0 0,.slice none 0 0,.slice none 0 0,.slice none 0 0,.slice none 0 0,.slice none 0 0,.slice none 0 0])) ?_
 refine l_nil (end0 Tryz.results238 ?_)
 intro w hw
 replace hw := hw.perm (L' := [pt b (.cells #[.slice none 0 0,.slice none 0 0,.slice none 0 0,.slice none 0 0,sB rp2 (hs ++ [(⟨vp,vn,vc⟩ : H3)]) rc3,xe,xw,.slice none 0 0,.slice none 0 0,.slice none 0 0,.slice none 0 0,.slice none 0 0,.slice none 0 0,.slice none 0 0,.slice none 0 0,.slice none 0 0,.slice none 0 0,.slice none 0 0,.slice none 0 0,.slice none 0 0] 149),rowF H3F 57 rp2 rc3 (hs ++ [(⟨vp,vn,vc⟩ : H3)]),pt b1 (.cells #[.slice vp (vn) vc] 57)]) (by exact (perm_ix [1,2,0] 3 rfl (by kernel_rfl) (by kernel_rfl)))
 exact ⟨rp2,rc3,rfl,st_mask [true,true,false] rfl hw⟩
theorem oneE_ok (β : Base) (w : World) (b : Nat) (p : Option Addr) (c : Nat) (hs : List H3) (hn : hs.length ≤ 1000) (xe xw : Value) (id : Int) (vp : Option Addr) (vn vc : Nat) (hw : St β [pt b (.cells #[.slice none 0 0, .slice none 0 0, .slice none 0 0, .slice none 0 0, sB p hs c, xe, xw, .slice none 0 0, .slice none 0 0, .slice none 0 0, .slice none 0 0, .slice none 0 0, .slice none 0 0, .slice none 0 0, .slice none 0 0, .slice none 0 0, .slice none 0 0, .slice none 0 0, .slice none 0 0, .slice none 0 0] 149), rowF H3F 57 p c hs] w) : Calls Tryz.prog 214 #[pp b 0, .agg #[Ix id, .slice vp vn vc]] w fun r w' => ∃ p' c', r = .returned (.tuple #[]) ∧ St β [pt b (.cells #[.slice none 0 0, .slice none 0 0, .slice none 0 0, .slice none 0 0, sB p' (hs ++ [(⟨vp, vn, vc⟩ : H3)]) c', xe, xw, .slice none 0 0, .slice none 0 0, .slice none 0 0, .slice none 0 0, .slice none 0 0, .slice none 0 0, .slice none 0 0, .slice none 0 0, .slice none 0 0, .slice none 0 0, .slice none 0 0, .slice none 0 0, .slice none 0 0] 149), rowF H3F 57 p' c' (hs ++ [(⟨vp, vn, vc⟩ : H3)])] w' := by
 refine enter (n := 8) Tryz.func214 rfl Tryz.ntmps214 rfl ?_ hw
 refine csr (bxa fun b1 => ?_)
 refine lnr (lE omp (lE ofp (lE (ols 0) (l_call rfl rfl rfl (cl0 (vs := [pp b 0,.slice vp (vn) vc]) tw153.ok rfl rfl) ?_))))
 intro w hw
 replace hw := hw.perm (L' := _ :: _ :: _ :: []) (by exact (((perm_front 0 rfl).trans (perm_front 2 rfl)).trans (perm_front 2 rfl)))
 obtain ⟨β1,sb,kn,hw1,back⟩ := St.frame (L := [_,_]) (M := _ :: []) hw
 refine (putC_ok β1 w b p c hs (by omega) _ _ vp vn vc hw1).mono ?_
 rintro e w' ⟨p2,c3,rfl,hw'⟩
 refine ⟨_,rfl,_,back _ _ hw',?_⟩
 clear hw hw1 hw' back kn sb
 refine l_nil (end0 Tryz.results214 ?_)
 intro w hw
 exact ⟨p2,c3,rfl,st_mask [true,true,false] rfl hw⟩
set_option maxHeartbeats 4000000 in
theorem putE_ok (β : Base) (w : World) (b : Nat) (p : Option Addr) (c : Nat) (hs : List H3) (q : Option Addr) (d : Nat) (gs : List H3) (hn : hs.length ≤ 500) (hn2 : gs.length ≤ 500) (xw : Value) (va : Option Addr) (vc : Nat) (es : List KHd) (hes : Sl HdF.R β.heap (sB va es vc) es) (hen : es.length ≤ 500) (hw : St β [pt b (.cells #[.slice none 0 0, .slice none 0 0, .slice none 0 0, .slice none 0 0, sB p hs c, sB q gs d, xw, .slice none 0 0, .slice none 0 0, .slice none 0 0, .slice none 0 0, .slice none 0 0, .slice none 0 0, .slice none 0 0, .slice none 0 0, .slice none 0 0, .slice none 0 0, .slice none 0 0, .slice none 0 0, .slice none 0 0] 149), rowF H3F 57 p c hs, rowF H3F 22 q d gs] w) : Calls Tryz.prog 181 #[pp b 0, sB va es vc] w fun r w' => ∃ p' c' q' d', r = .returned (.tuple #[]) ∧ St β [pt b (.cells #[.slice none 0 0, .slice none 0 0, .slice none 0 0, .slice none 0 0, sB p' (hs ++ es.map KHd.h3) c', sB q' (gs ++ [(⟨va, es.length, vc⟩ : H3)]) d', xw, .slice none 0 0, .slice none 0 0, .slice none 0 0, .slice none 0 0, .slice none 0 0, .slice none 0 0, .slice none 0 0, .slice none 0 0, .slice none 0 0, .slice none 0 0, .slice none 0 0, .slice none 0 0, .slice none 0 0] 149), rowF H3F 57 p' c' (hs ++ es.map KHd.h3), rowF H3F 22 q' d' (gs ++ [(⟨va, es.length, vc⟩ : H3)])] w' := by
 obtain ⟨-,vl,vm,ve⟩ := Sl.parts hes
 refine enter (n := 27) Tryz.func181 rfl Tryz.ntmps181 rfl ?_ hw
 refine csr (lE omp (lE omp (lE onp (lE ofp (lE (ols 0) (lE oms ?_))))))
 refine l_mv rfl rfl rfl (m_slices tw86 tw88.ok (cells := #[sB va es (vc)]) rfl rfl rfl rfl) ?_
 rintro _ _ ⟨b1,rfl,rfl⟩
 refine l_mv rfl rfl rfl (m_appendFlN (F := H3F) 3 tw86 tw87 (p := q) (m := gs.length) (xs := gs) (ys := [(⟨va,es.length,vc⟩ : H3)]) (ao := (some ⟨b1,0,none⟩)) (k := 1) (c := 1) rfl rfl rfl rfl rfl (k_ptFl (z := (⟨va,es.length,vc⟩ : H3)) 0 rfl rfl) (by first | omega | simp only [List.length_nil,List.length_cons,List.length_append,List.length_set]; omega) (by first | omega | simp only [List.length_nil,List.length_cons,List.length_append,List.length_set]; omega)) ?_
 rintro _ _ ⟨rp2,rc3,rfl,rfl⟩
 refine lE onp (lE ofp ?_)
 refine lu (mS 1 (#[.slice none 0 0,.slice none 0 0,.slice none 0 0,.slice none 0 0,sB p hs c,sB rp2 (gs ++ [(⟨va,es.length,vc⟩ : H3)]) rc3,xw,.slice none 0 0,.slice none 0 0,.slice none 0 0,.slice none 0 0,.slice none 0 0,.slice none 0 0,.slice none 0 0,.slice none 0 0,.slice none 0 0,.slice none 0 0,.slice none 0 0,.slice none 0 0,.slice none 0 0])) ?_
 refine lnc (lE oai (lnf (c_block ?_)))
 refine c_loop (fun (x_ : Nat × Option Addr × Nat) f L => match x_ with | (k,p,c) => (f 0 = pp b 0 ∧ f 1 = sB va es (vc) ∧ f 4 = Nx (k)) ∧ L = [pt b1 (.cells #[sB va es (vc)] 22),pt b (.cells #[.slice none 0 0,.slice none 0 0,.slice none 0 0,.slice none 0 0,sB p (hs ++ (es.take k).map KHd.h3) c,sB rp2 (gs ++ [(⟨va,es.length,vc⟩ : H3)]) rc3,xw,.slice none 0 0,.slice none 0 0,.slice none 0 0,.slice none 0 0,.slice none 0 0,.slice none 0 0,.slice none 0 0,.slice none 0 0,.slice none 0 0,.slice none 0 0,.slice none 0 0,.slice none 0 0,.slice none 0 0] 149),rowF H3F 57 p c (hs ++ (es.take k).map KHd.h3),rowF H3F 22 rp2 rc3 (gs ++ [(⟨va,es.length,vc⟩ : H3)])] ∧ (k ≤ es.length)) (fun (k,p,c) => es.length - k) (0,p,c) ?_ ?_
 ·exact ⟨⟨rfl,rfl,rfl⟩,by simp only [List.take_zero,List.map_nil,List.append_nil] <;> rfl,by omega⟩
 rintro ⟨k,p,c⟩ f0 L0 ⟨⟨hs0,hs1,hs4⟩,hL,hk⟩
 subst L0
 refine rbs 0 hs0 (rbs 1 hs1 (rbs 4 hs4 ?_))
 have htl : (hs ++ (es.take k).map KHd.h3).length ≤ 1000 := by rw [List.length_append,List.length_map,List.length_take]; omega
 refine cs2 (c_region (lE omi (lE oms (lE oln (lE olt (lnf (c_if _ rfl (fun hc4 => ?_) (fun hc4 => ?_))))))))
 ·refine csk (c_seq (c_block (c_region (lE omp (lE oms (lE omi ?_))))))
  obtain ⟨x5,hx6⟩ := getx es k (by omega)
  obtain ⟨ha7,cs8,hc9,rfl⟩ := ve _ _ hx6
  refine lE (oia tw29 ha7) (lv (v := .agg #[Ix (x5.id),.slice x5.p (x5.n) x5.c]) (e_load tw7.ok rfl (kB hc9) rfl) ?_)
  refine l_call rfl rfl rfl (cl0 (vs := [pp b 0,.agg #[Ix (x5.id),.slice x5.p (x5.n) x5.c]]) tw156.ok rfl rfl) ?_
  intro w hw
  replace hw := hw.perm (L' := _ :: _ :: _ :: _ :: []) (by exact ((((perm_front 3 rfl).trans (perm_front 1 rfl)).trans (perm_front 3 rfl)).trans (perm_front 3 rfl)))
  obtain ⟨β1,sb,kn,hw1,back⟩ := St.frame (L := [_,_]) (M := _ :: _ :: []) hw
  refine (oneE_ok β1 w b p c (hs ++ (es.take k).map KHd.h3) (by omega) _ _ (x5.id) x5.p x5.n x5.c hw1).mono ?_
  rintro e w' ⟨p11,c12,rfl,hw'⟩
  refine ⟨_,rfl,_,back _ _ hw',?_⟩
  clear hw hw1 hw' back kn sb
  refine l_nil (f_block (f_then (c_region (lE omi (lv (v := Nx (k + 1)) (e_add rfl rfl (i64n (by omega) (by omega))) (lE oai (l_nil ?_)))))))
  refine f_perm (L' := [pt b1 (.cells #[sB va es (vc)] 22),pt b (.cells #[.slice none 0 0,.slice none 0 0,.slice none 0 0,.slice none 0 0,sB p11 ((hs ++ (es.take k).map KHd.h3) ++ [(⟨x5.p,x5.n,x5.c⟩ : H3)]) c12,sB rp2 (gs ++ [(⟨va,es.length,vc⟩ : H3)]) rc3,xw,.slice none 0 0,.slice none 0 0,.slice none 0 0,.slice none 0 0,.slice none 0 0,.slice none 0 0,.slice none 0 0,.slice none 0 0,.slice none 0 0,.slice none 0 0,.slice none 0 0,.slice none 0 0,.slice none 0 0] 149),rowF H3F 57 p11 c12 ((hs ++ (es.take k).map KHd.h3) ++ [(⟨x5.p,x5.n,x5.c⟩ : H3)]),rowF H3F 22 rp2 rc3 (gs ++ [(⟨va,es.length,vc⟩ : H3)])]) (perm_ix [2,0,1,3] 4 rfl (by kernel_rfl) (by kernel_rfl)) ?_
  exact f_cut ⟨(k + 1,p11,c12),⟨⟨rfl,rfl,rfl⟩,by rw [tk_map hx6],by omega⟩,(show es.length - (k + 1) < es.length - k from by omega)⟩
 refine c_exit (f_then_exit (f_then_exit (f_exit (end0 Tryz.results181 ?_))))
 intro w hw
 have htk : es.take k = es := List.take_of_length_le (by omega)
 rw [htk] at hw
 replace hw := hw.perm (L' := [pt b (.cells #[.slice none 0 0,.slice none 0 0,.slice none 0 0,.slice none 0 0,sB p (hs ++ es.map KHd.h3) c,sB rp2 (gs ++ [(⟨va,es.length,vc⟩ : H3)]) rc3,xw,.slice none 0 0,.slice none 0 0,.slice none 0 0,.slice none 0 0,.slice none 0 0,.slice none 0 0,.slice none 0 0,.slice none 0 0,.slice none 0 0,.slice none 0 0,.slice none 0 0,.slice none 0 0,.slice none 0 0] 149),rowF H3F 57 p c (hs ++ es.map KHd.h3),rowF H3F 22 rp2 rc3 (gs ++ [(⟨va,es.length,vc⟩ : H3)]),pt b1 (.cells #[sB va es (vc)] 22)]) (by exact (perm_ix [1,2,3,0] 4 rfl (by kernel_rfl) (by kernel_rfl)))
 exact ⟨p,c,rp2,rc3,rfl,st_mask [true,true,true,false] rfl hw⟩
theorem oneW_ok (β : Base) (w : World) (b : Nat) (p : Option Addr) (c : Nat) (hs : List H3) (q : Option Addr) (d : Nat) (gs : List H3) (hn : hs.length ≤ 500) (hn2 : gs.length ≤ 500) (xw : Value) (tk : Int) (va : Option Addr) (vc : Nat) (es : List KHd) (hes : Sl HdF.R β.heap (sB va es vc) es) (hen : es.length ≤ 500) (hw : St β [pt b (.cells #[.slice none 0 0, .slice none 0 0, .slice none 0 0, .slice none 0 0, sB p hs c, sB q gs d, xw, .slice none 0 0, .slice none 0 0, .slice none 0 0, .slice none 0 0, .slice none 0 0, .slice none 0 0, .slice none 0 0, .slice none 0 0, .slice none 0 0, .slice none 0 0, .slice none 0 0, .slice none 0 0, .slice none 0 0] 149), rowF H3F 57 p c hs, rowF H3F 22 q d gs] w) : Calls Tryz.prog 119 #[pp b 0, .agg #[Ix tk, sB va es vc]] w fun r w' => ∃ p' c' q' d', r = .returned (.tuple #[]) ∧ St β [pt b (.cells #[.slice none 0 0, .slice none 0 0, .slice none 0 0, .slice none 0 0, sB p' (hs ++ es.map KHd.h3) c', sB q' (gs ++ [(⟨va, es.length, vc⟩ : H3)]) d', xw, .slice none 0 0, .slice none 0 0, .slice none 0 0, .slice none 0 0, .slice none 0 0, .slice none 0 0, .slice none 0 0, .slice none 0 0, .slice none 0 0, .slice none 0 0, .slice none 0 0, .slice none 0 0, .slice none 0 0] 149), rowF H3F 57 p' c' (hs ++ es.map KHd.h3), rowF H3F 22 q' d' (gs ++ [(⟨va, es.length, vc⟩ : H3)])] w' := by
 obtain ⟨-,vl,vm,ve⟩ := Sl.parts hes
 refine enter (n := 8) Tryz.func119 rfl Tryz.ntmps119 rfl ?_ hw
 refine csr (bxa fun b1 => ?_)
 refine lnr (lE omp (lE ofp (lE (ols 0) (l_call rfl rfl rfl (cl0 (vs := [pp b 0,sB va es (vc)]) tw157.ok rfl rfl) ?_))))
 intro w hw
 replace hw := hw.perm (L' := _ :: _ :: _ :: _ :: []) (by exact ((((perm_front 0 rfl).trans (perm_front 3 rfl)).trans (perm_front 3 rfl)).trans (perm_front 3 rfl)))
 obtain ⟨β1,sb,kn,hw1,back⟩ := St.frame (L := [_,_,_]) (M := _ :: []) hw
 refine (putE_ok β1 w b p c hs q d gs (by first | omega | (simp only [List.length_append,List.length_map,List.length_nil]; omega)) (by first | omega | (simp only [List.length_append,List.length_cons,List.length_nil]; omega)) _ va vc es (Sl.mono _ _ _ _ _ sb hes) (by omega) hw1).mono ?_
 rintro e w' ⟨p2,c3,q4,d5,rfl,hw'⟩
 refine ⟨_,rfl,_,back _ _ hw',?_⟩
 clear hw hw1 hw' back kn sb
 refine l_nil (end0 Tryz.results119 ?_)
 intro w hw
 exact ⟨p2,c3,q4,d5,rfl,st_mask [true,true,true,false] rfl hw⟩
set_option maxHeartbeats 4000000 in
theorem putW_ok (β : Base) (w : World) (b : Nat) (p : Option Addr) (c : Nat) (hs : List H3) (q : Option Addr) (d : Nat) (gs : List H3) (hn : hs.length ≤ 500) (hn2 : gs.length ≤ 500) (s : Option Addr) (t : Nat) (us : List H3) (hn3 : us.length ≤ 500) (tk : Int) (wa : Option Addr) (wc : Nat) (va : Option Addr) (vc : Nat) (es : List KHd) (hes : Sl HdF.R β.heap (sB va es vc) es) (hen : es.length ≤ 500) (hws : Sl WdF.R β.heap (.slice wa 1 wc) [(⟨tk, va, es.length, vc⟩ : KWd)]) (hw : St β [pt b (.cells #[.slice none 0 0, .slice none 0 0, .slice none 0 0, .slice none 0 0, sB p hs c, sB q gs d, sB s us t, .slice none 0 0, .slice none 0 0, .slice none 0 0, .slice none 0 0, .slice none 0 0, .slice none 0 0, .slice none 0 0, .slice none 0 0, .slice none 0 0, .slice none 0 0, .slice none 0 0, .slice none 0 0, .slice none 0 0] 149), rowF H3F 57 p c hs, rowF H3F 22 q d gs, rowF H3F 68 s t us] w) : Calls Tryz.prog 76 #[pp b 0, .slice wa 1 wc] w fun r w' => ∃ p' c' q' d' s' t', r = .returned (.tuple #[]) ∧ St β [pt b (.cells #[.slice none 0 0, .slice none 0 0, .slice none 0 0, .slice none 0 0, sB p' (hs ++ es.map KHd.h3) c', sB q' (gs ++ [(⟨va, es.length, vc⟩ : H3)]) d', sB s' (us ++ [(⟨wa, 1, wc⟩ : H3)]) t', .slice none 0 0, .slice none 0 0, .slice none 0 0, .slice none 0 0, .slice none 0 0, .slice none 0 0, .slice none 0 0, .slice none 0 0, .slice none 0 0, .slice none 0 0, .slice none 0 0, .slice none 0 0, .slice none 0 0] 149), rowF H3F 57 p' c' (hs ++ es.map KHd.h3), rowF H3F 22 q' d' (gs ++ [(⟨va, es.length, vc⟩ : H3)]), rowF H3F 68 s' t' (us ++ [(⟨wa, 1, wc⟩ : H3)])] w' := by
 obtain ⟨-,vl,vm,ve⟩ := Sl.parts hes
 obtain ⟨-,wl,wm,we⟩ := Sl.parts hws
 obtain ⟨hwa,cs_,hwc,rfl⟩ := we 0 (⟨tk,va,es.length,vc⟩ : KWd) rfl
 refine enter (n := 27) Tryz.func76 rfl Tryz.ntmps76 rfl ?_ hw
 refine csr (lE omp (lE omp (lE onp (lE ofp (lE (ols 0) (lE oms ?_))))))
 refine l_mv rfl rfl rfl (m_slices tw91 tw97.ok (cells := #[.slice wa (1) (wc)]) rfl rfl rfl rfl) ?_
 rintro _ _ ⟨b1,rfl,rfl⟩
 refine l_mv rfl rfl rfl (m_appendFlN (F := H3F) 4 tw91 tw96 (p := s) (m := us.length) (xs := us) (ys := [(⟨wa,1,wc⟩ : H3)]) (ao := (some ⟨b1,0,none⟩)) (k := 1) (c := 1) rfl rfl rfl rfl rfl (k_ptFl (z := (⟨wa,1,wc⟩ : H3)) 0 rfl rfl) (by first | omega | simp only [List.length_nil,List.length_cons,List.length_append,List.length_set]; omega) (by first | omega | simp only [List.length_nil,List.length_cons,List.length_append,List.length_set]; omega)) ?_
 rintro _ _ ⟨rp2,rc3,rfl,rfl⟩
 refine lE onp (lE ofp ?_)
 refine lu (mS 1 (#[.slice none 0 0,.slice none 0 0,.slice none 0 0,.slice none 0 0,sB p hs c,sB q gs d,sB rp2 (us ++ [(⟨wa,1,wc⟩ : H3)]) rc3,.slice none 0 0,.slice none 0 0,.slice none 0 0,.slice none 0 0,.slice none 0 0,.slice none 0 0,.slice none 0 0,.slice none 0 0,.slice none 0 0,.slice none 0 0,.slice none 0 0,.slice none 0 0,.slice none 0 0])) ?_
 refine lnc (lE oai (lnf (c_block (c_unroll 2 (un_succ 1 (cs2 (c_region (lE omi (lE oms (lE oln (lE olt (lnf ?_))))))))))))
 refine c_if _ rfl (fun hc4 => ?_) (fun hc4 => ?_)
 ·refine csk (c_seq (c_block (c_region (lE omp (lE oms (lE omi ?_))))))
  refine lv (v := .pointer (some ((ba wa).add (0 * 2)))) (e_indexAddr (k := 0) (len := 1) (cap := wc) (a := wa) rfl rfl tw95 (by omega) hwa) ?_
  refine lv (v := .agg #[Ix (tk),sB va es vc]) (e_load tw48.ok rfl (kB hwc) rfl) ?_
  refine l_call rfl rfl rfl (cl0 (vs := [pp b 0,.agg #[Ix (tk),sB va es vc]]) tw160.ok rfl rfl) ?_
  intro w hw
  replace hw := hw.perm (L' := _ :: _ :: _ :: _ :: _ :: []) (by exact (((((perm_front 4 rfl).trans (perm_front 1 rfl)).trans (perm_front 4 rfl)).trans (perm_front 4 rfl)).trans (perm_front 4 rfl)))
  obtain ⟨β1,sb,kn,hw1,back⟩ := St.frame (L := [_,_,_]) (M := _ :: _ :: []) hw
  refine (oneW_ok β1 w b p c hs q d gs (by first | omega | (simp only [List.length_append,List.length_map,List.length_nil]; omega)) (by first | omega | (simp only [List.length_append,List.length_cons,List.length_nil]; omega)) _ (tk) va vc es (Sl.mono _ _ _ _ _ sb hes) (by omega) hw1).mono ?_
  rintro e w' ⟨p5,c6,q7,d8,rfl,hw'⟩
  refine ⟨_,rfl,_,back _ _ hw',?_⟩
  clear hw hw1 hw' back kn sb
  refine l_nil (f_block (f_then (c_region (lE omi (lE opl (lE oai (l_nil (f_cut (un_succ 0 (cs2 (c_region (lE omi (lE oms (lE oln (lE olt (lnf ?_))))))))))))))))
  refine c_if _ rfl (fun hc9 => ?_) (fun hc9 => ?_)
  ·exact absurd hc9 (by decide)
  refine c_exit (f_then_exit (f_then_exit (f_exit (end0 Tryz.results76 ?_))))
  intro w hw
  replace hw := hw.perm (L' := [pt b (.cells #[.slice none 0 0,.slice none 0 0,.slice none 0 0,.slice none 0 0,sB p5 (hs ++ es.map KHd.h3) c6,sB q7 (gs ++ [(⟨va,es.length,vc⟩ : H3)]) d8,sB rp2 (us ++ [(⟨wa,1,wc⟩ : H3)]) rc3,.slice none 0 0,.slice none 0 0,.slice none 0 0,.slice none 0 0,.slice none 0 0,.slice none 0 0,.slice none 0 0,.slice none 0 0,.slice none 0 0,.slice none 0 0,.slice none 0 0,.slice none 0 0,.slice none 0 0] 149),rowF H3F 57 p5 c6 (hs ++ es.map KHd.h3),rowF H3F 22 q7 d8 (gs ++ [(⟨va,es.length,vc⟩ : H3)]),rowF H3F 68 rp2 rc3 (us ++ [(⟨wa,1,wc⟩ : H3)]),pt b1 (.cells #[.slice wa (1) (wc)] 68)]) (by exact (perm_ix [0,1,2,4,3] 5 rfl (by kernel_rfl) (by kernel_rfl)))
  exact ⟨p5,c6,q7,d8,rp2,rc3,rfl,st_mask [true,true,true,true,false] rfl hw⟩
 exact absurd (by decide) hc4
set_option maxRecDepth 100000 in
set_option maxHeartbeats 4000000 in
theorem bagW_ok (β : Base) (w : World) (b : Nat) (p : Option Addr) (c : Nat) (hs : List H3) (q : Option Addr) (d : Nat) (gs : List H3) (s : Option Addr) (t : Nat) (us : List H3) (hn : hs.length ≤ 1000) (hn2 : gs.length ≤ 1000) (hn3 : us.length ≤ 1000) (hv : List (HV KComp)) (hhs : hs = hv.map HV.h) (hbd : ∀ v ∈ hv, v.xs.length ≤ 1000000) (ev : List (HV KHd)) (hgs : gs = ev.map HV.h) (hbe : ∀ v ∈ ev, v.xs.length ≤ 1000000) (wv : List (HV KWd)) (hus : us = wv.map HV.h) (hbw : ∀ v ∈ wv, v.xs.length ≤ 1000000) (hw : St β [pt b (.cells #[.slice none 0 0, .slice none 0 0, .slice none 0 0, .slice none 0 0, sB p hs c, sB q gs d, sB s us t, .slice none 0 0, .slice none 0 0, .slice none 0 0, .slice none 0 0, .slice none 0 0, .slice none 0 0, .slice none 0 0, .slice none 0 0, .slice none 0 0, .slice none 0 0, .slice none 0 0, .slice none 0 0, .slice none 0 0] 149), rowF H3F 57 p c hs, rowF H3F 22 q d gs, rowF H3F 68 s t us, Sat (hv.map (ownV CompF 120)), Sat (ev.map (ownV HdF 59)), Sat (wv.map (ownV WdF 24))] w) : Ret Tryz.prog 77 #[pp b 0] β w (.bool true) := by
 refine enter (n := 141) Tryz.func77 rfl Tryz.ntmps77 rfl ?_ hw
 refine csr (lE oab (lnf (c_seq ?_)))
 refine c_perm (L' := [pt b (.cells #[.slice none 0 0,.slice none 0 0,.slice none 0 0,.slice none 0 0,sB p hs c,sB q gs d,sB s us t,.slice none 0 0,.slice none 0 0,.slice none 0 0,.slice none 0 0,.slice none 0 0,.slice none 0 0,.slice none 0 0,.slice none 0 0,.slice none 0 0,.slice none 0 0,.slice none 0 0,.slice none 0 0,.slice none 0 0] 149),Sat (hv.map (ownV CompF 120)),Sat (ev.map (ownV HdF 59)),Sat (wv.map (ownV WdF 24)),rowF H3F 57 p c hs,rowF H3F 22 q d gs,rowF H3F 68 s t us]) (perm_ix [0,4,5,6,1,2,3] 7 rfl (by kernel_rfl) (by kernel_rfl)) ?_
 refine c_freeze2 (M := [pt b (.cells #[.slice none 0 0,.slice none 0 0,.slice none 0 0,.slice none 0 0,sB p hs c,sB q gs d,sB s us t,.slice none 0 0,.slice none 0 0,.slice none 0 0,.slice none 0 0,.slice none 0 0,.slice none 0 0,.slice none 0 0,.slice none 0 0,.slice none 0 0,.slice none 0 0,.slice none 0 0,.slice none 0 0,.slice none 0 0] 149),Sat (hv.map (ownV CompF 120)),Sat (ev.map (ownV HdF 59)),Sat (wv.map (ownV WdF 24))]) (K := [rowF H3F 57 p c hs,rowF H3F 22 q d gs,rowF H3F 68 s t us]) rfl (fun βf ext1 kn1 bk1 => ?_)
 have hsl0 := kn1 _ (k_fl 0 (F := H3F) rfl)
 obtain ⟨-,hcl0,hml0,hel0⟩ := hsl0.parts
 have hsl1 := kn1 _ (k_fl 1 (F := H3F) rfl)
 obtain ⟨-,hcl1,hml1,hel1⟩ := hsl1.parts
 have hsl2 := kn1 _ (k_fl 2 (F := H3F) rfl)
 obtain ⟨-,hcl2,hml2,hel2⟩ := hsl2.parts
 refine c_region (lE omp (lE onp (lE ofp (lE (ols 0) (lcR clA (fun w β1 sb kn hw1 => flatLimbs_nil β1 w hw1) (lE omb (gE omp (gE onp (gE ofp ?_)))))))))
 refine gE (ols 0) (g_call rfl rfl rfl rfl rfl (cl0 (vs := [.slice none 0 0]) tw166.ok rfl rfl) ?_)
 intro w hw
 obtain ⟨β1,sb,kn,hw1,back⟩ := St.frame_all hw
 refine (flatInts_nil β1 w hw1).mono ?_
 rintro e w' ⟨rfl,hw'⟩
 refine ⟨_,rfl,_,back _ _ hw',?_⟩
 clear hw hw1 hw' back kn sb
 refine lE oktb (lE omb (gE omp (gE onp (gE ofp (gE (ols 0) (g_call rfl rfl rfl rfl rfl (cl0 (vs := [.slice none 0 0]) tw169.ok rfl rfl) ?_))))))
 intro w hw
 obtain ⟨β1,sb,kn,hw1,back⟩ := St.frame_all hw
 refine (flatTexts_nil β1 w hw1).mono ?_
 rintro e w' ⟨rfl,hw'⟩
 refine ⟨_,rfl,_,back _ _ hw',?_⟩
 clear hw hw1 hw' back kn sb
 refine lE oktb (lE omb (gE omp (gE onp (gE ofp (gE (ols 0) (g_call rfl rfl rfl rfl rfl (cl0 (vs := [.slice none 0 0]) tw172.ok rfl rfl) ?_))))))
 intro w hw
 obtain ⟨β1,sb,kn,hw1,back⟩ := St.frame_all hw
 refine (flatBytes_nil β1 w hw1).mono ?_
 rintro e w' ⟨rfl,hw'⟩
 refine ⟨_,rfl,_,back _ _ hw',?_⟩
 clear hw hw1 hw' back kn sb
 refine lE oktb (lE omb (gE omp (gE onp (gE ofp (gE (ols 0) (g_call rfl rfl rfl rfl rfl (cl0 (vs := [sB p hs (c)]) tw173.ok rfl rfl) ?_))))))
 intro w hw
 replace hw := hw.perm (L' := _ :: _ :: _ :: _ :: []) (by exact ((((perm_front 3 rfl).trans (perm_front 3 rfl)).trans (perm_front 2 rfl)).trans (perm_front 3 rfl)))
 obtain ⟨β1,sb,kn,hw1,back⟩ := St.frame (L := [_]) (M := _ :: _ :: _ :: []) hw
 refine (flatC_ok β1 w _ hs hv hhs (Sl.mono _ _ _ _ _ sb hsl0) (by omega) hbd hw1).mono ?_
 rintro e w' ⟨rfl,hw'⟩
 refine ⟨_,rfl,_,back _ _ hw',?_⟩
 clear hw hw1 hw' back kn sb
 refine lE oktb (lE omb (gE omp (gE onp (gE ofp (gE (ols 0) (g_call rfl rfl rfl rfl rfl (cl0 (vs := [sB q gs (d)]) tw174.ok rfl rfl) ?_))))))
 intro w hw
 replace hw := hw.perm (L' := _ :: _ :: _ :: []) (by exact (((perm_front 2 rfl).trans (perm_front 1 rfl)).trans (perm_front 2 rfl)))
 obtain ⟨β1,sb,kn,hw1,back⟩ := St.frame (L := [_]) (M := _ :: _ :: []) hw
 refine (flatE_ok β1 w _ gs ev hgs (Sl.mono _ _ _ _ _ sb hsl1) (by omega) hbe hw1).mono ?_
 rintro e w' ⟨rfl,hw'⟩
 refine ⟨_,rfl,_,back _ _ hw',?_⟩
 clear hw hw1 hw' back kn sb
 refine lE oktb (lE omb (gE omp (gE onp (gE ofp (gE (ols 0) (g_call rfl rfl rfl rfl rfl (cl0 (vs := [sB s us (t)]) tw175.ok rfl rfl) ?_))))))
 intro w hw
 replace hw := hw.perm (L' := _ :: _ :: []) (by exact ((perm_front 0 rfl).trans (perm_front 1 rfl)))
 obtain ⟨β1,sb,kn,hw1,back⟩ := St.frame (L := [_]) (M := _ :: []) hw
 refine (flatW_ok β1 w _ us wv hus (Sl.mono _ _ _ _ _ sb hsl2) (by omega) hbw hw1).mono ?_
 rintro e w' ⟨rfl,hw'⟩
 refine ⟨_,rfl,_,back _ _ hw',?_⟩
 clear hw hw1 hw' back kn sb
 refine lE oktb (lE omb (gE omp (gE onp (gE ofp (gE (ols 0) (g_call rfl rfl rfl rfl rfl (cl0 (vs := [.slice none 0 0]) tw178.ok rfl rfl) ?_))))))
 intro w hw
 obtain ⟨β1,sb,kn,hw1,back⟩ := St.frame_all hw
 refine (flatVecs_nil β1 w hw1).mono ?_
 rintro e w' ⟨rfl,hw'⟩
 refine ⟨_,rfl,_,back _ _ hw',?_⟩
 clear hw hw1 hw' back kn sb
 refine lE oktb (lE omb (gE omp (gE onp (gE ofp (gE (ols 0) (g_call rfl rfl rfl rfl rfl (cl0 (vs := [.slice none 0 0]) tw181.ok rfl rfl) ?_))))))
 intro w hw
 obtain ⟨β1,sb,kn,hw1,back⟩ := St.frame_all hw
 refine (flatBodies_nil β1 w hw1).mono ?_
 rintro e w' ⟨rfl,hw'⟩
 refine ⟨_,rfl,_,back _ _ hw',?_⟩
 clear hw hw1 hw' back kn sb
 refine lE oktb (lE omb (gE omp (gE onp (gE ofp (gE (ols 0) (g_call rfl rfl rfl rfl rfl (cl0 (vs := [.slice none 0 0]) tw184.ok rfl rfl) ?_))))))
 intro w hw
 obtain ⟨β1,sb,kn,hw1,back⟩ := St.frame_all hw
 refine (flatSystems_nil β1 w hw1).mono ?_
 rintro e w' ⟨rfl,hw'⟩
 refine ⟨_,rfl,_,back _ _ hw',?_⟩
 clear hw hw1 hw' back kn sb
 refine lE oktb (lE omb (gE omp (gE onp (gE ofp (gE (ols 0) (g_call rfl rfl rfl rfl rfl (cl0 (vs := [.slice none 0 0]) tw187.ok rfl rfl) ?_))))))
 intro w hw
 obtain ⟨β1,sb,kn,hw1,back⟩ := St.frame_all hw
 refine (flatInputs_nil β1 w hw1).mono ?_
 rintro e w' ⟨rfl,hw'⟩
 refine ⟨_,rfl,_,back _ _ hw',?_⟩
 clear hw hw1 hw' back kn sb
 refine lE oktb (lE omb (gE omp (gE onp (gE ofp (gE (ols 0) (g_call rfl rfl rfl rfl rfl (cl0 (vs := [.slice none 0 0]) tw190.ok rfl rfl) ?_))))))
 intro w hw
 obtain ⟨β1,sb,kn,hw1,back⟩ := St.frame_all hw
 refine (flatAreas_nil β1 w hw1).mono ?_
 rintro e w' ⟨rfl,hw'⟩
 refine ⟨_,rfl,_,back _ _ hw',?_⟩
 clear hw hw1 hw' back kn sb
 refine lE oktb (lE omb (gE omp (gE onp (gE ofp (gE (ols 0) (g_call rfl rfl rfl rfl rfl (cl0 (vs := [.slice none 0 0]) tw193.ok rfl rfl) ?_))))))
 intro w hw
 obtain ⟨β1,sb,kn,hw1,back⟩ := St.frame_all hw
 refine (flatPairs_nil β1 w hw1).mono ?_
 rintro e w' ⟨rfl,hw'⟩
 refine ⟨_,rfl,_,back _ _ hw',?_⟩
 clear hw hw1 hw' back kn sb
 refine lE oktb (lE omb (gE omp (gE onp (gE ofp (gE (ols 0) (g_call rfl rfl rfl rfl rfl (cl0 (vs := [.slice none 0 0]) tw196.ok rfl rfl) ?_))))))
 intro w hw
 obtain ⟨β1,sb,kn,hw1,back⟩ := St.frame_all hw
 refine (flatRopes_nil β1 w hw1).mono ?_
 rintro e w' ⟨rfl,hw'⟩
 refine ⟨_,rfl,_,back _ _ hw',?_⟩
 clear hw hw1 hw' back kn sb
 refine lE oktb (lE omb (gE omp (gE onp (gE ofp (gE (ols 0) (g_call rfl rfl rfl rfl rfl (cl0 (vs := [.slice none 0 0]) tw199.ok rfl rfl) ?_))))))
 intro w hw
 obtain ⟨β1,sb,kn,hw1,back⟩ := St.frame_all hw
 refine (flatExprs_nil β1 w hw1).mono ?_
 rintro e w' ⟨rfl,hw'⟩
 refine ⟨_,rfl,_,back _ _ hw',?_⟩
 clear hw hw1 hw' back kn sb
 refine lE oktb (lE omb (gE omp (gE onp (gE ofp (gE (ols 0) (g_call rfl rfl rfl rfl rfl (cl0 (vs := [.slice none 0 0]) tw202.ok rfl rfl) ?_))))))
 intro w hw
 obtain ⟨β1,sb,kn,hw1,back⟩ := St.frame_all hw
 refine (flatStmts_nil β1 w hw1).mono ?_
 rintro e w' ⟨rfl,hw'⟩
 refine ⟨_,rfl,_,back _ _ hw',?_⟩
 clear hw hw1 hw' back kn sb
 refine lE oktb (lE omb (gE omp (gE onp (gE ofp (gE (ols 0) (g_call rfl rfl rfl rfl rfl (cl0 (vs := [.slice none 0 0]) tw205.ok rfl rfl) ?_))))))
 intro w hw
 obtain ⟨β1,sb,kn,hw1,back⟩ := St.frame_all hw
 refine (flatScenes_nil β1 w hw1).mono ?_
 rintro e w' ⟨rfl,hw'⟩
 refine ⟨_,rfl,_,back _ _ hw',?_⟩
 clear hw hw1 hw' back kn sb
 refine lE oktb (lE omb (gE omp (gE onp (gE ofp (gE (ols 0) (g_call rfl rfl rfl rfl rfl (cl0 (vs := [.slice none 0 0]) tw208.ok rfl rfl) ?_))))))
 intro w hw
 obtain ⟨β1,sb,kn,hw1,back⟩ := St.frame_all hw
 refine (flatStops_nil β1 w hw1).mono ?_
 rintro e w' ⟨rfl,hw'⟩
 refine ⟨_,rfl,_,back _ _ hw',?_⟩
 clear hw hw1 hw' back kn sb
 refine lE oktb (lE omb (gE omp (gE onp (gE ofp (gE (ols 0) (g_call rfl rfl rfl rfl rfl (cl0 (vs := [.slice none 0 0]) tw211.ok rfl rfl) ?_))))))
 intro w hw
 obtain ⟨β1,sb,kn,hw1,back⟩ := St.frame_all hw
 refine (flatPortals_nil β1 w hw1).mono ?_
 rintro e w' ⟨rfl,hw'⟩
 refine ⟨_,rfl,_,back _ _ hw',?_⟩
 clear hw hw1 hw' back kn sb
 refine lE oktb (lE omb (gE omp (gE onp (gE ofp (gE (ols 0) (g_call rfl rfl rfl rfl rfl (cl0 (vs := [.slice none 0 0]) tw214.ok rfl rfl) ?_))))))
 intro w hw
 obtain ⟨β1,sb,kn,hw1,back⟩ := St.frame_all hw
 refine (flatStores_nil β1 w hw1).mono ?_
 rintro e w' ⟨rfl,hw'⟩
 refine ⟨_,rfl,_,back _ _ hw',?_⟩
 clear hw hw1 hw' back kn sb
 refine lE oktb (lE oab (lnf (c_ret (ret1 Tryz.results77 rfl ?_))))
 intro w hw
 exact ⟨rfl,st_mask [false,false,false] rfl (bk1 _ _ (st_mask [false] rfl hw))⟩
set_option maxHeartbeats 4000000 in
theorem apartW_ok (β : Base) (w : World) (la : Option Addr) (lc : Nat) (wa : Option Addr) (wc : Nat) (ya : Option Addr) (yc : Nat) (t1 t2 : Int) (ea : Option Addr) (ec : Nat) (es : List KHd) (fa : Option Addr) (fc : Nat) (fs : List KHd) (cv dv : List (HV KComp)) (hls : Sl H3F.R β.heap (.slice la 2 lc) [(⟨wa, 1, wc⟩ : H3), ⟨ya, 1, yc⟩]) (hcv : es.map KHd.h3 = cv.map HV.h) (hdv : fs.map KHd.h3 = dv.map HV.h) (hen : es.length ≤ 100) (hfn : fs.length ≤ 100) (hbc : ∀ v ∈ cv, v.xs.length ≤ 1000000) (hbd : ∀ v ∈ dv, v.xs.length ≤ 1000000) (hw : St β [rowF WdF 24 wa wc [(⟨t1, ea, es.length, ec⟩ : KWd)], rowF WdF 24 ya yc [(⟨t2, fa, fs.length, fc⟩ : KWd)], rowF HdF 59 ea ec es, rowF HdF 59 fa fc fs, Sat (cv.map (ownV CompF 120)), Sat (dv.map (ownV CompF 120))] w) : Ret Tryz.prog 26 #[.slice la 2 lc] β w (.bool true) := by
 obtain ⟨-,ll,lm,le⟩ := Sl.parts hls
 obtain ⟨hl0,cs0,hc0,rfl⟩ := le 0 _ rfl
 obtain ⟨hl1,cs1,hc1,rfl⟩ := le 1 _ rfl
 refine enter (n := 21) Tryz.func26 rfl Tryz.ntmps26 rfl ?_ hw
 refine csr (lE oab (lnc ?_))
 refine lv (v := .agg #[.slice none 0 0,.slice none 0 0,.slice none 0 0,.slice none 0 0,.slice none 0 0,.slice none 0 0,.slice none 0 0,.slice none 0 0,.slice none 0 0,.slice none 0 0,.slice none 0 0,.slice none 0 0,.slice none 0 0,.slice none 0 0,.slice none 0 0,.slice none 0 0,.slice none 0 0,.slice none 0 0,.slice none 0 0,.slice none 0 0]) (e_build tw216.ok tw215 (vs := []) (cells := #[.slice none 0 0,.slice none 0 0,.slice none 0 0,.slice none 0 0,.slice none 0 0,.slice none 0 0,.slice none 0 0,.slice none 0 0,.slice none 0 0,.slice none 0 0,.slice none 0 0,.slice none 0 0,.slice none 0 0,.slice none 0 0,.slice none 0 0,.slice none 0 0,.slice none 0 0,.slice none 0 0,.slice none 0 0,.slice none 0 0]) rfl (by kernel_rfl)) ?_
 refine bxa fun b1 => ?_
 refine lE oap (lnf (cs2 (c_emp (r := rowF H3F 57 none 0 []) (row_nil _ _ _) (c_emp (r := rowF H3F 22 none 0 []) (row_nil _ _ _) ?_))))
 refine c_emp (r := rowF H3F 68 none 0 []) (row_nil _ _ _) (c_region (lE oai (lnf (c_block (c_unroll 3 (un_succ 2 (cs2 (c_region (lE omi (lE oms ?_))))))))))
 refine lE oln (lE olt (lnf (c_if _ rfl (fun hc2 => ?_) (fun hc2 => ?_))))
 ·refine csk (c_seq (c_block (c_region (lE omp (lE oms (lE omi ?_))))))
  refine lv (v := .pointer (some ((ba la).add (0 * 1)))) (e_indexAddr (k := 0) (len := 2) (cap := lc) (a := la) rfl rfl tw91 (by omega) hl0) ?_
  refine lv (v := .slice wa (1) wc) (e_load1 tw92.ok rfl (kB hc0)) (l_call rfl rfl rfl (cl0 (vs := [pp b1 0,.slice wa (1) wc]) tw217.ok rfl rfl) ?_)
  intro w hw
  replace hw := hw.perm (L' := _ :: _ :: _ :: _ :: _ :: _ :: _ :: _ :: _ :: _ :: []) (by exact ((((((((((perm_front 9 rfl).trans (perm_front 9 rfl)).trans (perm_front 9 rfl)).trans (perm_front 9 rfl)).trans (perm_front 9 rfl)).trans (perm_front 9 rfl)).trans (perm_front 6 rfl)).trans (perm_front 7 rfl)).trans (perm_front 8 rfl)).trans (perm_front 9 rfl)))
  obtain ⟨β1,sb,kn,hw1,back⟩ := St.frame (L := [_,_,_,_]) (M := _ :: _ :: _ :: _ :: _ :: _ :: []) hw
  refine (putW_ok β1 w b1 none 0 [] none 0 [] (by first | omega | (simp only [List.length_append,List.length_map,List.length_cons,List.length_nil]; omega)) (by first | omega | (simp only [List.length_append,List.length_map,List.length_cons,List.length_nil]; omega)) none 0 [] (by first | omega | (simp only [List.length_append,List.length_map,List.length_cons,List.length_nil]; omega)) t1 wa wc ea ec es (kn _ (k_flN 2 (F := HdF) (m := es.length) (xs := es) rfl rfl)) (by omega) (kn _ (k_flN 0 (F := WdF) (m := 1) (xs := [(⟨t1,ea,es.length,ec⟩ : KWd)]) rfl rfl)) hw1).mono ?_
  rintro e w' ⟨p3,c4,q5,d6,s7,t8,rfl,hw'⟩
  refine ⟨_,rfl,_,back _ _ hw',?_⟩
  clear hw hw1 hw' back kn sb
  refine l_nil (f_block (f_then (c_region (lE omi (lE opl (lE oai (l_nil (f_cut (un_succ 1 (cs2 (c_region (lE omi (lE oms (lE oln (lE olt (lnf ?_))))))))))))))))
  refine c_if _ rfl (fun hc9 => ?_) (fun hc9 => ?_)
  ·refine csk (c_seq (c_block (c_region (lE omp (lE oms (lE omi ?_))))))
   refine lv (v := .pointer (some ((ba la).add (1 * 1)))) (e_indexAddr (k := 1) (len := 2) (cap := lc) (a := la) rfl rfl tw91 (by omega) hl1) ?_
   refine lv (v := .slice ya (1) yc) (e_load1 tw92.ok rfl (kB hc1)) (l_call rfl rfl rfl (cl0 (vs := [pp b1 0,.slice ya (1) yc]) tw217.ok rfl rfl) ?_)
   intro w hw
   replace hw := hw.perm (L' := _ :: _ :: _ :: _ :: _ :: _ :: _ :: _ :: _ :: _ :: []) (by exact ((((((((((perm_front 9 rfl).trans (perm_front 9 rfl)).trans (perm_front 9 rfl)).trans (perm_front 9 rfl)).trans (perm_front 9 rfl)).trans (perm_front 9 rfl)).trans (perm_front 9 rfl)).trans (perm_front 9 rfl)).trans (perm_front 9 rfl)).trans (perm_front 9 rfl)))
   obtain ⟨β1,sb,kn,hw1,back⟩ := St.frame (L := [_,_,_,_]) (M := _ :: _ :: _ :: _ :: _ :: _ :: []) hw
   refine (putW_ok β1 w b1 p3 c4 ([] ++ es.map KHd.h3) q5 d6 ([] ++ [(⟨ea,es.length,ec⟩ : H3)]) (by first | omega | (simp only [List.length_append,List.length_map,List.length_cons,List.length_nil]; omega)) (by first | omega | (simp only [List.length_append,List.length_map,List.length_cons,List.length_nil]; omega)) s7 t8 ([] ++ [(⟨wa,1,wc⟩ : H3)]) (by first | omega | (simp only [List.length_append,List.length_map,List.length_cons,List.length_nil]; omega)) t2 ya yc fa fc fs (kn _ (k_flN 3 (F := HdF) (m := fs.length) (xs := fs) rfl rfl)) (by omega) (kn _ (k_flN 1 (F := WdF) (m := 1) (xs := [(⟨t2,fa,fs.length,fc⟩ : KWd)]) rfl rfl)) hw1).mono ?_
   rintro e w' ⟨p10,c11,q12,d13,s14,t15,rfl,hw'⟩
   refine ⟨_,rfl,_,back _ _ hw',?_⟩
   clear hw hw1 hw' back kn sb
   refine l_nil (f_block (f_then (c_region (lE omi (lE opl (lE oai (l_nil (f_cut (un_succ 0 (cs2 (c_region (lE omi (lE oms (lE oln (lE olt (lnf ?_))))))))))))))))
   refine c_if _ rfl (fun hc16 => ?_) (fun hc16 => ?_)
   ·exact absurd hc16 (by decide)
   refine c_exit (f_then_exit (f_then_exit (f_exit (fts ?_))))
   refine c_perm (L' := [Sat (cv.map (ownV CompF 120)),Sat (dv.map (ownV CompF 120)),pt b1 (.cells #[.slice none 0 0,.slice none 0 0,.slice none 0 0,.slice none 0 0,sB p10 (([] ++ es.map KHd.h3) ++ fs.map KHd.h3) c11,sB q12 (([] ++ [(⟨ea,es.length,ec⟩ : H3)]) ++ [(⟨fa,fs.length,fc⟩ : H3)]) d13,sB s14 (([] ++ [(⟨wa,1,wc⟩ : H3)]) ++ [(⟨ya,1,yc⟩ : H3)]) t15,.slice none 0 0,.slice none 0 0,.slice none 0 0,.slice none 0 0,.slice none 0 0,.slice none 0 0,.slice none 0 0,.slice none 0 0,.slice none 0 0,.slice none 0 0,.slice none 0 0,.slice none 0 0,.slice none 0 0] 149),rowF H3F 57 p10 c11 (([] ++ es.map KHd.h3) ++ fs.map KHd.h3),rowF H3F 22 q12 d13 (([] ++ [(⟨ea,es.length,ec⟩ : H3)]) ++ [(⟨fa,fs.length,fc⟩ : H3)]),rowF H3F 68 s14 t15 (([] ++ [(⟨wa,1,wc⟩ : H3)]) ++ [(⟨ya,1,yc⟩ : H3)]),rowF WdF 24 wa wc [(⟨t1,ea,es.length,ec⟩ : KWd)],rowF WdF 24 ya yc [(⟨t2,fa,fs.length,fc⟩ : KWd)],rowF HdF 59 ea ec es,rowF HdF 59 fa fc fs]) (perm_ix [8,9,0,1,2,3,4,5,6,7] 10 rfl (by kernel_rfl) (by kernel_rfl)) ?_
   refine c_merge (L := [Sat (cv.map (ownV CompF 120)),Sat (dv.map (ownV CompF 120))]) (M := [pt b1 (.cells #[.slice none 0 0,.slice none 0 0,.slice none 0 0,.slice none 0 0,sB p10 (([] ++ es.map KHd.h3) ++ fs.map KHd.h3) c11,sB q12 (([] ++ [(⟨ea,es.length,ec⟩ : H3)]) ++ [(⟨fa,fs.length,fc⟩ : H3)]) d13,sB s14 (([] ++ [(⟨wa,1,wc⟩ : H3)]) ++ [(⟨ya,1,yc⟩ : H3)]) t15,.slice none 0 0,.slice none 0 0,.slice none 0 0,.slice none 0 0,.slice none 0 0,.slice none 0 0,.slice none 0 0,.slice none 0 0,.slice none 0 0,.slice none 0 0,.slice none 0 0,.slice none 0 0,.slice none 0 0] 149),rowF H3F 57 p10 c11 (([] ++ es.map KHd.h3) ++ fs.map KHd.h3),rowF H3F 22 q12 d13 (([] ++ [(⟨ea,es.length,ec⟩ : H3)]) ++ [(⟨fa,fs.length,fc⟩ : H3)]),rowF H3F 68 s14 t15 (([] ++ [(⟨wa,1,wc⟩ : H3)]) ++ [(⟨ya,1,yc⟩ : H3)]),rowF WdF 24 wa wc [(⟨t1,ea,es.length,ec⟩ : KWd)],rowF WdF 24 ya yc [(⟨t2,fa,fs.length,fc⟩ : KWd)],rowF HdF 59 ea ec es,rowF HdF 59 fa fc fs]) (r := Sat ((cv ++ dv).map (ownV CompF 120))) sat_app ?_
   refine c_perm (L' := [rowF HdF 59 ea ec es,rowF HdF 59 fa fc fs,Sat ((cv ++ dv).map (ownV CompF 120)),pt b1 (.cells #[.slice none 0 0,.slice none 0 0,.slice none 0 0,.slice none 0 0,sB p10 (([] ++ es.map KHd.h3) ++ fs.map KHd.h3) c11,sB q12 (([] ++ [(⟨ea,es.length,ec⟩ : H3)]) ++ [(⟨fa,fs.length,fc⟩ : H3)]) d13,sB s14 (([] ++ [(⟨wa,1,wc⟩ : H3)]) ++ [(⟨ya,1,yc⟩ : H3)]) t15,.slice none 0 0,.slice none 0 0,.slice none 0 0,.slice none 0 0,.slice none 0 0,.slice none 0 0,.slice none 0 0,.slice none 0 0,.slice none 0 0,.slice none 0 0,.slice none 0 0,.slice none 0 0,.slice none 0 0] 149),rowF H3F 57 p10 c11 (([] ++ es.map KHd.h3) ++ fs.map KHd.h3),rowF H3F 22 q12 d13 (([] ++ [(⟨ea,es.length,ec⟩ : H3)]) ++ [(⟨fa,fs.length,fc⟩ : H3)]),rowF H3F 68 s14 t15 (([] ++ [(⟨wa,1,wc⟩ : H3)]) ++ [(⟨ya,1,yc⟩ : H3)]),rowF WdF 24 wa wc [(⟨t1,ea,es.length,ec⟩ : KWd)],rowF WdF 24 ya yc [(⟨t2,fa,fs.length,fc⟩ : KWd)]]) (perm_ix [7,8,0,1,2,3,4,5,6] 9 rfl (by kernel_rfl) (by kernel_rfl)) ?_
   refine c_merge (L := [rowF HdF 59 ea ec es,rowF HdF 59 fa fc fs]) (M := [Sat ((cv ++ dv).map (ownV CompF 120)),pt b1 (.cells #[.slice none 0 0,.slice none 0 0,.slice none 0 0,.slice none 0 0,sB p10 (([] ++ es.map KHd.h3) ++ fs.map KHd.h3) c11,sB q12 (([] ++ [(⟨ea,es.length,ec⟩ : H3)]) ++ [(⟨fa,fs.length,fc⟩ : H3)]) d13,sB s14 (([] ++ [(⟨wa,1,wc⟩ : H3)]) ++ [(⟨ya,1,yc⟩ : H3)]) t15,.slice none 0 0,.slice none 0 0,.slice none 0 0,.slice none 0 0,.slice none 0 0,.slice none 0 0,.slice none 0 0,.slice none 0 0,.slice none 0 0,.slice none 0 0,.slice none 0 0,.slice none 0 0,.slice none 0 0] 149),rowF H3F 57 p10 c11 (([] ++ es.map KHd.h3) ++ fs.map KHd.h3),rowF H3F 22 q12 d13 (([] ++ [(⟨ea,es.length,ec⟩ : H3)]) ++ [(⟨fa,fs.length,fc⟩ : H3)]),rowF H3F 68 s14 t15 (([] ++ [(⟨wa,1,wc⟩ : H3)]) ++ [(⟨ya,1,yc⟩ : H3)]),rowF WdF 24 wa wc [(⟨t1,ea,es.length,ec⟩ : KWd)],rowF WdF 24 ya yc [(⟨t2,fa,fs.length,fc⟩ : KWd)]]) (r := Sat ([(⟨ea,ec,es⟩ : HV KHd),⟨fa,fc,fs⟩].map (ownV HdF 59))) (fun _ q => q) ?_
   refine c_perm (L' := [rowF WdF 24 wa wc [(⟨t1,ea,es.length,ec⟩ : KWd)],rowF WdF 24 ya yc [(⟨t2,fa,fs.length,fc⟩ : KWd)],Sat ([(⟨ea,ec,es⟩ : HV KHd),⟨fa,fc,fs⟩].map (ownV HdF 59)),Sat ((cv ++ dv).map (ownV CompF 120)),pt b1 (.cells #[.slice none 0 0,.slice none 0 0,.slice none 0 0,.slice none 0 0,sB p10 (([] ++ es.map KHd.h3) ++ fs.map KHd.h3) c11,sB q12 (([] ++ [(⟨ea,es.length,ec⟩ : H3)]) ++ [(⟨fa,fs.length,fc⟩ : H3)]) d13,sB s14 (([] ++ [(⟨wa,1,wc⟩ : H3)]) ++ [(⟨ya,1,yc⟩ : H3)]) t15,.slice none 0 0,.slice none 0 0,.slice none 0 0,.slice none 0 0,.slice none 0 0,.slice none 0 0,.slice none 0 0,.slice none 0 0,.slice none 0 0,.slice none 0 0,.slice none 0 0,.slice none 0 0,.slice none 0 0] 149),rowF H3F 57 p10 c11 (([] ++ es.map KHd.h3) ++ fs.map KHd.h3),rowF H3F 22 q12 d13 (([] ++ [(⟨ea,es.length,ec⟩ : H3)]) ++ [(⟨fa,fs.length,fc⟩ : H3)]),rowF H3F 68 s14 t15 (([] ++ [(⟨wa,1,wc⟩ : H3)]) ++ [(⟨ya,1,yc⟩ : H3)])]) (perm_ix [6,7,0,1,2,3,4,5] 8 rfl (by kernel_rfl) (by kernel_rfl)) ?_
   refine c_merge (L := [rowF WdF 24 wa wc [(⟨t1,ea,es.length,ec⟩ : KWd)],rowF WdF 24 ya yc [(⟨t2,fa,fs.length,fc⟩ : KWd)]]) (M := [Sat ([(⟨ea,ec,es⟩ : HV KHd),⟨fa,fc,fs⟩].map (ownV HdF 59)),Sat ((cv ++ dv).map (ownV CompF 120)),pt b1 (.cells #[.slice none 0 0,.slice none 0 0,.slice none 0 0,.slice none 0 0,sB p10 (([] ++ es.map KHd.h3) ++ fs.map KHd.h3) c11,sB q12 (([] ++ [(⟨ea,es.length,ec⟩ : H3)]) ++ [(⟨fa,fs.length,fc⟩ : H3)]) d13,sB s14 (([] ++ [(⟨wa,1,wc⟩ : H3)]) ++ [(⟨ya,1,yc⟩ : H3)]) t15,.slice none 0 0,.slice none 0 0,.slice none 0 0,.slice none 0 0,.slice none 0 0,.slice none 0 0,.slice none 0 0,.slice none 0 0,.slice none 0 0,.slice none 0 0,.slice none 0 0,.slice none 0 0,.slice none 0 0] 149),rowF H3F 57 p10 c11 (([] ++ es.map KHd.h3) ++ fs.map KHd.h3),rowF H3F 22 q12 d13 (([] ++ [(⟨ea,es.length,ec⟩ : H3)]) ++ [(⟨fa,fs.length,fc⟩ : H3)]),rowF H3F 68 s14 t15 (([] ++ [(⟨wa,1,wc⟩ : H3)]) ++ [(⟨ya,1,yc⟩ : H3)])]) (r := Sat ([(⟨wa,wc,[(⟨t1,ea,es.length,ec⟩ : KWd)]⟩ : HV KWd),⟨ya,yc,[(⟨t2,fa,fs.length,fc⟩ : KWd)]⟩].map (ownV WdF 24))) (fun _ q => q) ?_
   refine c_region (lE omp (l_call rfl rfl rfl (cl0 (vs := [pp b1 0]) tw218.ok rfl rfl) ?_))
   intro w hw
   replace hw := hw.perm (L' := _ :: _ :: _ :: _ :: _ :: _ :: _ :: []) (by exact (((((((perm_front 0 rfl).trans (perm_front 1 rfl)).trans (perm_front 2 rfl)).trans (perm_front 6 rfl)).trans (perm_front 6 rfl)).trans (perm_front 6 rfl)).trans (perm_front 6 rfl)))
   obtain ⟨β1,sb,kn,hw1,back⟩ := St.frame (L := [_,_,_,_,_,_,_]) (M := []) hw
   refine (bagW_ok β1 w b1 p10 c11 _ q12 d13 _ s14 t15 _ (by first | omega | (simp only [sB,rB,List.length_append,List.length_map,List.length_cons,List.length_nil]; omega)) (by first | omega | (simp only [sB,rB,List.length_append,List.length_map,List.length_cons,List.length_nil]; omega)) (by first | omega | (simp only [sB,rB,List.length_append,List.length_map,List.length_cons,List.length_nil]; omega)) (cv ++ dv) (by rw [List.nil_append,List.map_append,hcv,hdv]) (fun v h => (List.mem_append.1 h).elim (hbc v) (hbd v)) [(⟨ea,ec,es⟩ : HV KHd),⟨fa,fc,fs⟩] rfl (mem2 (by show es.length ≤ _; omega) (by show fs.length ≤ _; omega)) [(⟨wa,wc,[(⟨t1,ea,es.length,ec⟩ : KWd)]⟩ : HV KWd),⟨ya,yc,[(⟨t2,fa,fs.length,fc⟩ : KWd)]⟩] rfl (mem2 (by simp) (by simp)) hw1).mono ?_
   rintro e w' ⟨rfl,hw'⟩
   refine ⟨_,rfl,_,back _ _ hw',?_⟩
   clear hw hw1 hw' back kn sb
   refine lE oab (lnf (c_ret (ret1 Tryz.results26 rfl ?_)))
   intro w hw
   exact ⟨rfl,st_mask [] rfl hw⟩
  exact absurd (by decide) hc9
 exact absurd (by decide) hc2
end Go.Proofs
