/-
 Sums are kept: walked. Printed by a program of my own.
-/
import Derived.Test.YtjejfkajcbdgjaaGreatTd22
import Derived.Test.YtjejfkajcbdgjaaGreatSlA
import Derived.Test.YtjejfkajcbdgjaaGreatSlN
namespace Go.Proofs
open Go Go.Sl Go.Td Go.Jn
theorem St.okVw {β : Base} {H J : Nat} {X : KHs} {dn : Bool} {M : List Res} {w : World} (h : St β (viewR H J X dn :: M) w) : XOk X ∧ St β (viewR H J X dn :: M) w := by
 obtain ⟨mp,mh,mm,s,ms,zs,h1,h2⟩ := St.openView h
 exact ⟨h1.ok,h⟩
theorem tt204 : slB Tryz.prog 131 44 4 = true := by kernel_rfl
theorem tt205 : elB Tryz.prog 44 4 32 = true := by kernel_rfl
instance tt206 : UndC Tryz.prog 131 44 := ⟨by kernel_rfl⟩
set_option maxHeartbeats 4000000 in
theorem keptV_ok (β : Base) (w : World) (H J : Nat) (X : KHs) (dn : Bool) (hw : St β [viewR H J X dn] w) : Calls Tryz.prog 29 #[pp H 0] w fun r w' => r = .returned (.bool true) ∧ St β [viewR H J X dn] w' := by
 obtain ⟨hof,hhf,hw⟩ := St.fewVw hw
 obtain ⟨hok,hw⟩ := St.okVw hw
 refine enter (n := 74) Tryz.func29 rfl Tryz.ntmps29 rfl ?_ hw
 refine csr (lE oab (lnc (alE fun b1 => lnf (c_seq (c_emp (r := rowF AmF 44 none 0 []) (row_nil _ _ _) (c_region (lE oas (lnf (cs2 (c_region ?_))))))))))
 refine lE omp (l_call rfl rfl rfl (cl0 (vs := [pp H 0]) tt192.ok rfl rfl) ?_)
 intro w hw
 replace hw := hw.perm (L' := _ :: _ :: _ :: []) (by exact (((perm_front 1 rfl).trans (perm_front 1 rfl)).trans (perm_front 2 rfl)))
 obtain ⟨β1,sb,kn,hw1,back⟩ := St.frame (L := [_]) (M := _ :: _ :: []) hw
 refine (ownersV_ok β1 w H J X dn hw1).mono ?_
 rintro e w' ⟨p2,c3,rfl,hw'⟩
 refine ⟨_,rfl,_,back _ _ hw',?_⟩
 clear hw hw1 hw' back kn sb
 refine lE oln (lE omi (lnf (c_block (c_mask [true,true,true,true] rfl ?_))))
 refine c_loop (fun (x_ : Nat × List KAm × Option Addr × Nat) f L => match x_ with | (k,al,p,c) => (f 0 = pp H 0 ∧ f 3 = pp b1 0 ∧ f 4 = sB p al c ∧ f 14 = sB p2 (ownersX X) c3 ∧ f 15 = Nx ((ownersX X).length) ∧ f 16 = Nx (k)) ∧ L = [rowF IntF 3 p2 c3 (ownersX X),viewR H J X dn,rowF AmF 44 p c al,pt b1 (.cells #[.int .i64 (0),.int .i64 (0),.int .i64 (0),.int .i64 (0)] 44)] ∧ (k ≤ (ownersX X).length ∧ al = ((ownersX X).take k).map (puA X.s.ps))) (fun (k,al,p,c) => (ownersX X).length - k) (0,[],none,0) ?_ ?_
 ·exact ⟨⟨rfl,rfl,rfl,rfl,rfl,rfl⟩,rfl,⟨Nat.zero_le _,by first | rfl | simp⟩⟩
 rintro ⟨k,al,p,c⟩ f0 L0 ⟨⟨hs0,hs3,hs4,hs14,hs15,hs16⟩,hL,⟨hkl,hal⟩⟩
 subst L0
 refine rbs 0 hs0 (rbs 3 hs3 (rbs 4 hs4 (rbs 14 hs14 (rbs 15 hs15 (rbs 16 hs16 ?_)))))
 have hall : al.length ≤ 512 := by rw [hal]; simp only [List.length_append,List.length_map,List.length_take]; omega
 refine csr (lE olt (lnf (c_seq (c_if _ rfl (fun hc4 => ?_) (fun hc4 => ?_)))))
 ·refine csk (c_seq (c_block (csr (lv (v := .pointer (some ((ba p2).add (k * 1)))) (e_indexFlN 0 (F := IntF) rfl rfl rfl tt29 (by omega) rfl) ?_))))
  obtain ⟨x5,hx6⟩ : ∃ x_,(ownersX X)[k]? = some x_ := ⟨_,List.getElem?_eq_getElem (by first | omega | decide)⟩
  refine lv (v := Ix (x5)) (e_load1 tt2.ok rfl (k_flAt 0 (F := IntF) rfl hx6)) (lE oai (lnc (lE oms (lE omp (lE omi ?_)))))
  refine l_call rfl rfl rfl (cl0 (vs := [pp H 0,Ix (x5)]) tt178.ok rfl rfl) ?_
  intro w hw
  replace hw := hw.perm (L' := _ :: _ :: _ :: _ :: []) (by exact ((((perm_front 3 rfl).trans (perm_front 3 rfl)).trans (perm_front 2 rfl)).trans (perm_front 3 rfl)))
  obtain ⟨β1,sb,kn,hw1,back⟩ := St.frame (L := [_]) (M := _ :: _ :: _ :: []) hw
  refine (purseV_ok β1 w H J X dn hw1 x5).mono ?_
  rintro e w' ⟨rfl,hw'⟩
  refine ⟨_,rfl,_,back _ _ hw',?_⟩
  clear hw hw1 hw' back kn sb
  refine l_mv rfl rfl rfl (m_slices tt204 tt3.ok (cells := (amC (puA X.s.ps x5))) rfl rfl rfl rfl) ?_
  rintro _ _ ⟨b7,rfl,rfl⟩
  refine l_mv rfl rfl rfl (m_appendFlN (F := AmF) 3 tt204 tt205 (p := p) (m := al.length) (xs := al) (ys := [(puA X.s.ps x5)]) (ao := (some ⟨b7,0,none⟩)) (k := 1) (c := 1) rfl rfl rfl rfl rfl (k_ptFl (z := (puA X.s.ps x5)) 0 rfl rfl) (by first | omega | simp only [List.length_nil,List.length_cons,List.length_append,List.length_set]; omega) (by first | omega | simp only [List.length_nil,List.length_cons,List.length_append,List.length_set]; omega)) ?_
  rintro _ _ ⟨rp8,rc9,rfl,rfl⟩
  refine lE oas (lnc (lE omp (lE omi (l_call rfl rfl rfl (cl0 (vs := [pp H 0,Ix (x5)]) tt178.ok rfl rfl) ?_))))
  intro w hw
  replace hw := hw.perm (L' := _ :: _ :: _ :: _ :: _ :: []) (by exact (((((perm_front 4 rfl).trans (perm_front 4 rfl)).trans (perm_front 4 rfl)).trans (perm_front 3 rfl)).trans (perm_front 4 rfl)))
  obtain ⟨β1,sb,kn,hw1,back⟩ := St.frame (L := [_]) (M := _ :: _ :: _ :: _ :: []) hw
  refine (purseV_ok β1 w H J X dn hw1 x5).mono ?_
  rintro e w' ⟨rfl,hw'⟩
  refine ⟨_,rfl,_,back _ _ hw',?_⟩
  clear hw hw1 hw' back kn sb
  refine lv (v := .agg #[.int .i64 (0),.int .i64 (0),.int .i64 (0),.int .i64 (0)]) (e_build_a tt3.ok tt1.ok (vs := []) (cells := #[.int .i64 (0),.int .i64 (0),.int .i64 (0),.int .i64 (0)]) rfl rfl) ?_
  refine lv (v := .bool false) (ev_f (own_ne hok hx6) (e_eql_t (xs := amE (puA X.s.ps x5)) (ys := amE zeroA) tt12 tt13 tt14 rfl rfl rfl rfl (am_eq (x := (puA X.s.ps x5)) (y := zeroA)))) ?_
  refine lnf (c_no rfl (c_skip (f_block (f_then (c_region (lv (v := Nx (k + 1)) (e_add rfl rfl (i64n (by omega) (by omega))) (lE omi (l_nil ?_))))))))
  refine fpn [2,0,3,4,1] 5 ?_
  refine f_mask [true,true,true,true,false] rfl ?_
  exact f_cut ⟨(k + 1,(al ++ [(puA X.s.ps x5)]),rp8,rc9),⟨⟨rfl,rfl,rfl,rfl,rfl,rfl⟩,rfl,⟨by omega,by rw [hal]; exact take_map hx6⟩⟩,(show (ownersX X).length - (k + 1) < (ownersX X).length - k from by omega)⟩
 refine c_exit (f_then_exit (f_then_exit (f_exit (fts (c_seq ?_)))))
 have hae : al = ((ownersX X).map (puA X.s.ps)) := by rw [hal,List.take_of_length_le (by omega)]
 subst hae
 refine c_region (lE omp (l_call rfl rfl rfl (cl0 (vs := [pp H 0]) tt180.ok rfl rfl) ?_))
 intro w hw
 replace hw := hw.perm (L' := _ :: _ :: _ :: _ :: []) (by exact ((((perm_front 3 rfl).trans (perm_front 3 rfl)).trans (perm_front 2 rfl)).trans (perm_front 3 rfl)))
 obtain ⟨β1,sb,kn,hw1,back⟩ := St.frame (L := [_]) (M := _ :: _ :: _ :: []) hw
 refine (holdsV_ok β1 w H J X dn hw1).mono ?_
 rintro e w' ⟨p10,c11,rfl,hw'⟩
 refine ⟨_,rfl,_,back _ _ hw',?_⟩
 clear hw hw1 hw' back kn sb
 refine lE oln (lE omi (lnf (c_block (c_mask [true,true,false,true,true] rfl ?_))))
 refine c_loop (fun (x_ : Nat × List KAm × Option Addr × Nat) f L => match x_ with | (k,al,p,c) => (f 0 = pp H 0 ∧ f 3 = pp b1 0 ∧ f 4 = sB p al c ∧ f 33 = sB p10 (holdsX X) c11 ∧ f 34 = Nx ((holdsX X).length) ∧ f 35 = Nx (k)) ∧ L = [rowF HoF 104 p10 c11 (holdsX X),viewR H J X dn,rowF AmF 44 p c al,pt b1 (.cells #[.int .i64 (0),.int .i64 (0),.int .i64 (0),.int .i64 (0)] 44)] ∧ (k ≤ (holdsX X).length ∧ al = ((ownersX X).map (puA X.s.ps)) ++ ((holdsX X).take k).map KHo.a)) (fun (k,al,p,c) => (holdsX X).length - k) (0,((ownersX X).map (puA X.s.ps)),p,c) ?_ ?_
 ·exact ⟨⟨rfl,rfl,rfl,rfl,rfl,rfl⟩,rfl,⟨Nat.zero_le _,by first | rfl | simp⟩⟩
 rintro ⟨k,al,p,c⟩ f0 L0 ⟨⟨hs0,hs3,hs4,hs33,hs34,hs35⟩,hL,⟨hkl,hal⟩⟩
 subst L0
 refine rbs 0 hs0 (rbs 3 hs3 (rbs 4 hs4 (rbs 33 hs33 (rbs 34 hs34 (rbs 35 hs35 ?_)))))
 have hall : al.length ≤ 512 := by rw [hal]; simp only [List.length_append,List.length_map,List.length_take]; omega
 refine csr (lE olt (lnf (c_seq (c_if _ rfl (fun hc12 => ?_) (fun hc12 => ?_)))))
 ·refine csk (c_seq (c_block (csr (lv (v := .pointer (some ((ba p10).add (k * 6)))) (e_indexFlN 0 (F := HoF) rfl rfl rfl tt116 (by omega) rfl) ?_))))
  obtain ⟨x13,hx14⟩ : ∃ x_,(holdsX X)[k]? = some x_ := ⟨_,List.getElem?_eq_getElem (by first | omega | decide)⟩
  refine lv (v := .agg #[Ix (x13.number),Ix (x13.owner),Ix (x13.a.a0),Ix (x13.a.a1),Ix (x13.a.a2),Ix (x13.a.a3)]) (e_load tt43.ok rfl (k_flAt 0 (F := HoF) rfl hx14) rfl) ?_
  refine alE fun b15 => lu (mS 0 (#[Ix (x13.number),Ix (x13.owner),Ix (x13.a.a0),Ix (x13.a.a1),Ix (x13.a.a2),Ix (x13.a.a3)])) (lnr (lE oms (lE ofp ?_)))
  refine lE (olg 0) (l_mv rfl rfl rfl (m_slices tt204 tt3.ok (cells := (amC x13.a)) rfl rfl rfl rfl) ?_)
  rintro _ _ ⟨b16,rfl,rfl⟩
  refine l_mv rfl rfl rfl (m_appendFlN (F := AmF) 4 tt204 tt205 (p := p) (m := al.length) (xs := al) (ys := [x13.a]) (ao := (some ⟨b16,0,none⟩)) (k := 1) (c := 1) rfl rfl rfl rfl rfl (k_ptFl (z := x13.a) 0 rfl rfl) (by first | omega | simp only [List.length_nil,List.length_cons,List.length_append,List.length_set]; omega) (by first | omega | simp only [List.length_nil,List.length_cons,List.length_append,List.length_set]; omega)) ?_
  rintro _ _ ⟨rp17,rc18,rfl,rfl⟩
  refine lE oas (l_nil (f_block (f_then (c_region (lv (v := Nx (k + 1)) (e_add rfl rfl (i64n (by omega) (by omega))) (lE omi (l_nil ?_)))))))
  refine f_mask [false,false,true,true,true,true] rfl ?_
  exact f_cut ⟨(k + 1,(al ++ [x13.a]),rp17,rc18),⟨⟨rfl,rfl,rfl,rfl,rfl,rfl⟩,rfl,⟨by omega,by rw [hal]; exact take_app hx14⟩⟩,(show (holdsX X).length - (k + 1) < (holdsX X).length - k from by omega)⟩
 refine c_exit (f_then_exit (f_then_exit (f_exit (fts (c_seq ?_)))))
 have hae : al = (allX X) := by rw [hal,List.take_of_length_le (by omega)]; rfl
 subst hae
 refine c_region (lE oms (lE oln (lE omi (lnf (c_block (c_mask [false,true,true,true] rfl ?_))))))
 refine c_loop (fun (x_ : Nat × KAm) f L => match x_ with | (k,su) => (f 0 = pp H 0 ∧ f 3 = pp b1 0 ∧ f 45 = sB p (allX X) c ∧ f 46 = Nx ((allX X).length) ∧ f 47 = Nx (k)) ∧ L = [viewR H J X dn,rowF AmF 44 p c (allX X),pt b1 (.cells (amC su) 44)] ∧ (k ≤ (allX X).length ∧ su = sumA ((allX X).take k))) (fun (k,su) => (allX X).length - k) (0,zeroA) ?_ ?_
 ·exact ⟨⟨rfl,rfl,rfl,rfl,rfl⟩,rfl,⟨Nat.zero_le _,rfl⟩⟩
 rintro ⟨k,su⟩ f0 L0 ⟨⟨hs0,hs3,hs45,hs46,hs47⟩,hL,⟨hkl,hsu⟩⟩
 subst L0
 refine rbs 0 hs0 (rbs 3 hs3 (rbs 45 hs45 (rbs 46 hs46 (rbs 47 hs47 (csr (lE olt (lnf (c_seq (c_if _ rfl (fun hc19 => ?_) (fun hc19 => ?_))))))))))
 ·refine csk (c_seq (c_block (csr (lv (v := .pointer (some ((ba p).add (k * 4)))) (e_indexFlN 1 (F := AmF) rfl rfl rfl tt204 (by omega) rfl) ?_))))
  obtain ⟨x20,hx21⟩ : ∃ x_,(allX X)[k]? = some x_ := ⟨_,List.getElem?_eq_getElem (by first | omega | decide)⟩
  refine lv (v := .agg (amC x20)) (e_load tt0.ok rfl (k_flAt 1 (F := AmF) rfl hx21) rfl) (alE fun b22 => lu (mS 0 (amC x20)) (lnf (c_seq ?_)))
  have hnx := all_next hok hx21
  have hnb := hnx.2.2.2
  rw [← hsu] at hnb
  unfold KAm.bd at hnb
  refine c_region (lE (olg 0) (lE omi (lnf (c_block (c_unroll 5 (un_succ 4 (csr (lE olt (lnf (c_seq (c_yes rfl (csk (c_seq (c_block (csr (lE omi ?_))))))))))))))))
  refine lv (v := Ix (x20.a0)) (e_index_a (cs := (amC x20)) (k := 0) rfl rfl tt1.ok rfl (by decide) tt2.ok) (lE oai (lE oai (lnf (cs2 (c_region ?_)))))
  refine lE omi (lv (v := .bool false) (ev_f (by omega) (e_lss (a := (x20.a0)) (b := (0 : Int)) rfl rfl)) (lE omb (gE omi ?_)))
  refine g_val (v := .bool false) rfl rfl rfl rfl rfl (ev_f (by omega) (e_gtr (a := (x20.a0)) (b := (2147483647 : Int)) rfl rfl)) (lE okfb (lnf ?_))
  refine c_no rfl (csk (c_region (lE omi (lv (v := pp b1 0) (e_indexArrK (b := b1) (o := 0) (k := 0) rfl rfl tt1.ok (by decide)) (lE (oli 3) (lE omi ?_))))))
  refine lE opl (lv (v := pp b1 0) (e_indexArrK (b := b1) (o := 0) (k := 0) rfl rfl tt1.ok (by decide)) ?_)
  refine lu (mS 3 (#[Ix ((su.a0) + (x20.a0)),Ix (su.a1),Ix (su.a2),Ix (su.a3)])) (l_nil (f_block (f_then (c_region (lE opl (lE omi (l_nil (f_cut ?_))))))))
  refine un_succ 3 (csr (lE olt (lnf (c_seq (c_yes rfl (csk (c_seq (c_block (csr (lE omi ?_))))))))))
  refine lv (v := Ix (x20.a1)) (e_index_a (cs := (amC x20)) (k := 1) rfl rfl tt1.ok rfl (by decide) tt2.ok) (lE oai (lE oai (lnf (cs2 (c_region ?_)))))
  refine lE omi (lv (v := .bool false) (ev_f (by omega) (e_lss (a := (x20.a1)) (b := (0 : Int)) rfl rfl)) (lE omb (gE omi ?_)))
  refine g_val (v := .bool false) rfl rfl rfl rfl rfl (ev_f (by omega) (e_gtr (a := (x20.a1)) (b := (2147483647 : Int)) rfl rfl)) (lE okfb (lnf ?_))
  refine c_no rfl (csk (c_region (lE omi (lv (v := pp b1 1) (e_indexArrK (b := b1) (o := 0) (k := 1) rfl rfl tt1.ok (by decide)) (lE (oli 3) (lE omi ?_))))))
  refine lE opl (lv (v := pp b1 1) (e_indexArrK (b := b1) (o := 0) (k := 1) rfl rfl tt1.ok (by decide)) ?_)
  refine lu (mS 3 (#[Ix ((su.a0) + (x20.a0)),Ix ((su.a1) + (x20.a1)),Ix (su.a2),Ix (su.a3)])) (l_nil (f_block (f_then (c_region (lE opl (lE omi ?_))))))
  refine l_nil (f_cut (un_succ 2 (csr (lE olt (lnf (c_seq (c_yes rfl (csk (c_seq (c_block (csr (lE omi ?_))))))))))))
  refine lv (v := Ix (x20.a2)) (e_index_a (cs := (amC x20)) (k := 2) rfl rfl tt1.ok rfl (by decide) tt2.ok) (lE oai (lE oai (lnf (cs2 (c_region ?_)))))
  refine lE omi (lv (v := .bool false) (ev_f (by omega) (e_lss (a := (x20.a2)) (b := (0 : Int)) rfl rfl)) (lE omb (gE omi ?_)))
  refine g_val (v := .bool false) rfl rfl rfl rfl rfl (ev_f (by omega) (e_gtr (a := (x20.a2)) (b := (2147483647 : Int)) rfl rfl)) (lE okfb (lnf ?_))
  refine c_no rfl (csk (c_region (lE omi (lv (v := pp b1 2) (e_indexArrK (b := b1) (o := 0) (k := 2) rfl rfl tt1.ok (by decide)) (lE (oli 3) (lE omi ?_))))))
  refine lE opl (lv (v := pp b1 2) (e_indexArrK (b := b1) (o := 0) (k := 2) rfl rfl tt1.ok (by decide)) ?_)
  refine lu (mS 3 (#[Ix ((su.a0) + (x20.a0)),Ix ((su.a1) + (x20.a1)),Ix ((su.a2) + (x20.a2)),Ix (su.a3)])) (l_nil (f_block (f_then (c_region (lE opl ?_)))))
  refine lE omi (l_nil (f_cut (un_succ 1 (csr (lE olt (lnf (c_seq (c_yes rfl (csk (c_seq (c_block (csr (lE omi ?_)))))))))))))
  refine lv (v := Ix (x20.a3)) (e_index_a (cs := (amC x20)) (k := 3) rfl rfl tt1.ok rfl (by decide) tt2.ok) (lE oai (lE oai (lnf (cs2 (c_region ?_)))))
  refine lE omi (lv (v := .bool false) (ev_f (by omega) (e_lss (a := (x20.a3)) (b := (0 : Int)) rfl rfl)) (lE omb (gE omi ?_)))
  refine g_val (v := .bool false) rfl rfl rfl rfl rfl (ev_f (by omega) (e_gtr (a := (x20.a3)) (b := (2147483647 : Int)) rfl rfl)) (lE okfb (lnf ?_))
  refine c_no rfl (csk (c_region (lE omi (lv (v := pp b1 3) (e_indexArrK (b := b1) (o := 0) (k := 3) rfl rfl tt1.ok (by decide)) (lE (oli 3) (lE omi ?_))))))
  refine lE opl (lv (v := pp b1 3) (e_indexArrK (b := b1) (o := 0) (k := 3) rfl rfl tt1.ok (by decide)) ?_)
  refine lu (mS 3 (#[Ix ((su.a0) + (x20.a0)),Ix ((su.a1) + (x20.a1)),Ix ((su.a2) + (x20.a2)),Ix ((su.a3) + (x20.a3))])) (l_nil (f_block (f_then ?_)))
  refine c_region (lE opl (lE omi (l_nil (f_cut (un_succ 0 (csr (lE olt (lnf (c_seq (c_no rfl (c_exit (f_then_exit (f_then_exit (f_exit (f_block ?_)))))))))))))))
  refine f_then (c_region (lv (v := Nx (k + 1)) (e_add rfl rfl (i64n (by omega) (by omega))) (lE omi (l_nil (f_mask [false,true,true,true] rfl ?_)))))
  exact f_cut ⟨(k + 1,(su.add x20)),⟨⟨rfl,rfl,rfl,rfl,rfl⟩,rfl,⟨by omega,by rw [hsu]; exact hnx.1⟩⟩,(show (allX X).length - (k + 1) < (allX X).length - k from by omega)⟩
 refine c_exit (f_then_exit (f_then_exit (f_exit (fts ?_))))
 have hse : su = X.s.su := by rw [hsu,List.take_of_length_le (by omega)]; exact allX_sum hok
 refine cnz [sv 70 (.agg (amC su)) [] [] [0],sv 71 (pp H 0) [] [] [1],sv 72 (.agg (amC X.s.su)) [1] [1] [],sv 73 (.bool true) [0,1,2] [0,2] [],sv 2 (.bool true) [0,1,2,3] [3] []] [u1 [2],u0,u1 [0]] [] [(3,pp b1 0),(0,pp H 0)] [] ⟨rfl,rfl,trivial⟩ ⟨?_,?_,?_,?_,?_,trivial⟩ ?_
 ·rintro f M - ⟨i0,-⟩
  exact obE (olg 0)
 ·rintro f M - ⟨i0,-⟩
  exact obE omp
 ·rintro f M ⟨k0,-⟩ -
  refine obS (up_cons (d := 71) rfl k0) ?_
  refine l_call rfl rfl rfl (cl0 (vs := [pp H 0]) tt179.ok rfl rfl) ?_
  intro w hw
  replace hw := hw.perm (L' := _ :: M) (by exact (perm_front 0 rfl))
  obtain ⟨β1,sb,kn,hw1,back⟩ := St.frame (L := [_]) (M := M) hw
  refine (supplyV_ok β1 w H J X dn hw1).mono ?_
  rintro e w' ⟨rfl,hw'⟩
  refine ⟨_,rfl,_,back _ _ hw',?_⟩
  clear hw hw1 hw' back kn sb
  refine l_nil ?_
  exact f_owes_d (up_cons (d := 71) rfl k0) rfl (perm_front 0 rfl)
 ·rintro f M ⟨k0,k1,-⟩ -
  exact ob0 (up_cons (d := 72) (up_cons (d := 70) rfl k0) k1) rfl (ev_t hse (e_eql_t (xs := amE su) (ys := amE X.s.su) tt12 tt13 tt14 rfl rfl rfl rfl (am_eq (x := su) (y := X.s.su)))) (.refl _)
 ·rintro f M ⟨k0,-⟩ -
  exact obE oab
 rintro fa23 ⟨-,-,-,-,k4,-⟩ -
 refine fre ?_
 refine f_rebase (d := 2) k4 (ftr (ret1 Tryz.results29 rfl ?_))
 intro w hw
 replace hw := st_mask (L' := [viewR H J X dn]) [true,false,false] rfl hw
 exact ⟨rfl,hw⟩
theorem kept_ok (β : Base) (w : World) (H S N W : Nat) (pw : Int) (X : KHs) (hw : St β [houseR H S X N W pw] w) : Calls Tryz.prog 29 #[pp H 0] w fun r w' => r = .returned (.bool true) ∧ St β [houseR H S X N W pw] w' := by
 refine (hou_calls (Φ := fun r L => r = .returned (.bool true) ∧ L = []) hw (fun β w J hw => (keptV_ok β w H J X false hw).mono ?_)).mono ?_
 ·rintro r w' ⟨rfl,hw'⟩; exact ⟨[],⟨rfl,rfl⟩,hw'⟩
 rintro r w' ⟨L,⟨rfl,rfl⟩,hw'⟩; exact ⟨rfl,hw'⟩
end Go.Proofs
