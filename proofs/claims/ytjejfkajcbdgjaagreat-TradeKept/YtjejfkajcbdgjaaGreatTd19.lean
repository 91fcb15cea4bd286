/-
 A state written: walked. Printed by a program of my own.
-/
import Derived.Test.YtjejfkajcbdgjaaGreatTd16
import Derived.Test.YtjejfkajcbdgjaaGreatTdWrt
import Derived.Test.YtjejfkajcbdgjaaGreatSlA
import Derived.Test.YtjejfkajcbdgjaaGreatSlN
namespace Go.Proofs
open Go Go.Sl Go.Td Go.Jn
theorem fits_all {a : KAm} {k : Nat} (h : Fits a.a0 k ∧ Fits a.a1 k ∧ Fits a.a2 k ∧ Fits a.a3 k) (hk : k < 64 := by decide) : ∀ x ∈ [a.a0, a.a1, a.a2, a.a3], 0 ≤ x ∧ x < 2 ^ k := fun x hx => by
 have f : ∀ v,Fits v k → 0 ≤ v ∧ v < 2 ^ k := fun v hv => by
  rcases hv.f with h | h
  ·omega
  ·exact ⟨h.1,h.2.1⟩
 simp only [List.mem_cons,List.not_mem_nil,or_false] at hx
 rcases hx with rfl | rfl | rfl | rfl
 ·exact f _ h.1
 ·exact f _ h.2.1
 ·exact f _ h.2.2.1
 exact f _ h.2.2.2
theorem c_know {P : Program} {ro : Option Nat} {n : Nat} {ds : List Deferred} {β : Base} {Q : Exit → Act → World → Prop} {f : Fm} {L : List Res} {c : Code} {p : Prop} (hk : Knows β L (fun _ => p)) (K : p → RunC P ro n ds β c Q f L) : RunC P ro n ds β c Q f L := fun a w ha hw => K (hw.knows hk) a w ha hw
theorem sl_some {h : PHeap} {p : Option Addr} {n c : Nat} {xs : List Int} (hs : Sl IntF.R h (.slice p n c) xs) : xs = [] ∨ p = some (ba p) := by
 obtain ⟨a,d,e,h1,h2,h3⟩ := hs
 injection e with e1 e2 e3
 subst e1
 cases xs with
 | nil => exact .inl rfl
 | cons x xs => exact .inr (h3 0 x rfl).1
theorem sl_at {h : PHeap} {p : Option Addr} {n c j : Nat} {xs : List Int} {y : Int} (hs : Sl IntF.R h (.slice p n c) xs) (hy : xs[j]? = some y) : Cs h ((ba p).add (j * 1)) [Ix y] := by
 obtain ⟨a,d,e,h1,h2,h3⟩ := hs
 injection e with e1 e2 e3
 subst e1
 obtain ⟨_,cs,g1,g2⟩ := h3 j y hy
 have g2 : cs = [Ix y] := g2
 rw [g2] at g1
 exact g1
theorem St.nodupMe {β : Base} {L : List Res} {w : World} (hw : St β L w) (i : Nat) {m : Nat} {ms : List (Int × KMh)} (hi : L[i]? = some (mpR MeM m ms)) : (ms.map (·.1)).Nodup ∧ St β L w := by
 obtain ⟨es,c,_,h⟩ := hw.knows (Knows.of_res i hi (mpR.mono _ _ _) fun _ h => h)
 exact ⟨h.keys,hw⟩
theorem stBits_len {su : KAm} {last : Int} {ps : List (Int × KAm)} {hs : List (Int × KHo)} {ms : List (Int × KMem)} (h1 : ps.length ≤ 256) (h2 : hs.length ≤ 128) (h3 : (msL ms).length ≤ 4459 * 64) : (stBits su last ps hs ms).length ≤ 346368 := by
 have e : (stBits su last ps hs ms).length = (63 + 63 + 63 + 63) + (48 + (9 + (141 * ps.length + (9 + (189 * hs.length + (9 + (msL ms).length)))))) := by
  unfold stBits; simp only [List.length_append,bitsV_len,amL_len,psL_len,hsL_len]
 have g1 := Nat.mul_le_mul_left 141 h1
 have g2 := Nat.mul_le_mul_left 189 h2
 rw [e]
 generalize 141 * ps.length = a at g1 ⊢
 generalize 189 * hs.length = b at g2 ⊢
 generalize (msL ms).length = c at h3 ⊢
 omega
theorem wr_pos {xs : List UInt8} {su : KAm} {last : Int} {ps : List (Int × KAm)} {hs : List (Int × KHo)} {ms : List (Int × KMem)} (h : Wr xs (stBits su last ps hs ms).length (stBits su last ps hs ms)) : xs ≠ [] := fun e => by
 have h1 := h.len
 rw [e] at h1
 unfold stBits at h1
 simp only [List.length_append,bitsV_len,amL_len,List.length_nil] at h1
 omega
instance tt185 : CfC Tryz.prog 96 := ⟨by kernel_rfl⟩
theorem tputR_ok (β : Base) (w : World) (wb : Nat) (l : List Bool) (hw : St β [wrR wb l] w) (v : Int) (k : Nat) (hv : Fits v k) (hn : l.length + k ≤ 1048576) : Calls Tryz.prog 95 #[pp wb 0, Ix v, Nx k] w fun r w' => r = .returned (.tuple #[]) ∧ St β [wrR wb (l ++ bitsV (U v) k)] w' := by
 obtain ⟨p,c,xs,hr,hw⟩ := St.openWr hw
 refine (tput_ok β w wb p c xs _ hw hr.len v k hv.k64 hn hv.f).mono ?_
 rintro r w' ⟨p',c',rfl,hw'⟩
 exact ⟨rfl,St.closeWr (M := []) (putB_wr hv.k64 hr) (by simp only [List.length_append,bitsV_len,amL_len,dealL_len]; try omega) hw'⟩
theorem tamR_ok (β : Base) (w : World) (wb : Nat) (l : List Bool) (hw : St β [wrR wb l] w) (a : KAm) (k : Nat) (hk : k < 64) (hf : ∀ x ∈ [a.a0, a.a1, a.a2, a.a3], 0 ≤ x ∧ x < 2 ^ k) (hn : l.length + 4 * k ≤ 1048576) : Calls Tryz.prog 94 #[pp wb 0, .agg (amC a), Nx k] w fun r w' => r = .returned (.tuple #[]) ∧ St β [wrR wb (l ++ amL a k)] w' := by
 obtain ⟨p,c,xs,hr,hw⟩ := St.openWr hw
 refine (tam_ok β w wb p c xs _ hw hr.len a k hk hn hf).mono ?_
 rintro r w' ⟨p',c',rfl,hw'⟩
 exact ⟨rfl,St.closeWr (M := []) (amB_wr (by omega) hr) (by simp only [List.length_append,bitsV_len,amL_len,dealL_len]; try omega) hw'⟩
theorem tdealR_ok (β : Base) (w : World) (wb : Nat) (l : List Bool) (hw : St β [wrR wb l] w) (au nu : Int) (v : Value) (al : List KAct) (hs : Sl ActF.R β.heap v al) (hf : dformed au nu al = true) (hn : l.length + (57 + 225 * al.length) ≤ 1048576) : Calls Tryz.prog 58 #[pp wb 0, .agg #[Ix au, Ix nu, v]] w fun r w' => r = .returned (.tuple #[]) ∧ St β [wrR wb (l ++ dealL au nu al)] w' := by
 obtain ⟨p,c,xs,hr,hw⟩ := St.openWr hw
 refine (deal_ok β w wb p c xs _ hw hr.len au nu v al hs (dformed_iff.1 hf).2.2.2 (dformed_iff.1 hf).2.2.1.2 (by have := (dformed_iff.1 hf).1; omega) (by have := (dformed_iff.1 hf).2.1; omega) hn).mono ?_
 rintro r w' ⟨p',c',rfl,hw'⟩
 exact ⟨rfl,St.closeWr (M := []) (dealB_wr hr) (by simp only [List.length_append,bitsV_len,amL_len,dealL_len]; try omega) hw'⟩
theorem wbytesR_ok (β : Base) (w : World) (wb : Nat) (l : List Bool) (hw : St β [wrR wb l] w) (hn : l.length ≤ 1048576) : Calls Tryz.prog 59 #[pp wb 0] w fun r w' => ∃ p c xs, Wr xs l.length l ∧ r = .returned (sB p xs c) ∧ St β [rB p xs c] w' := by
 obtain ⟨p,c,xs,hr,hw⟩ := St.openWr hw
 refine (wbytes_ok β w wb p c xs _ hw (by rw [hr.len]; omega)).mono ?_
 rintro r w' ⟨p',c',rfl,hw'⟩
 exact ⟨p',c',xs,hr,rfl,hw'⟩
set_option maxHeartbeats 4000000 in
theorem sbytes_ok (β : Base) (w : World) (mp mh mm : Nat) (s : KSt) (ms : List (Int × KMh)) (zs : List (KMh × KMem)) (hw : St β [mpR PuM mp s.ps, mpR HoM mh s.hs, mpR MeM mm ms, memR zs] w) (X : KHs) (he : EqS s X.s) (hmm : MmOk X ms zs) (hxo : XOk X) (hla : X.s.last ≤ 16000000) : Calls Tryz.prog 49 #[.agg (stC mp mh mm s.last s.su)] w fun r w' => ∃ p c bs, Wr bs (stBits s.su s.last (plO s) (glO s) (mlO X ms)).length (stBits s.su s.last (plO s) (glO s) (mlO X ms)) ∧ (stBits s.su s.last (plO s) (glO s) (mlO X ms)).length ≤ 346368 ∧ r = .returned (sB p bs c) ∧ St β [rB p bs c, mpR PuM mp s.ps, mpR HoM mh s.hs, mpR MeM mm ms, memR zs] w' := by
 obtain ⟨hkn,hw⟩ := St.nodupMe hw 2 rfl
 have hms := mlO_of hmm hkn
 have hsf := st_fit hxo hla (he.p.symm.trans (plO_perm he.np)) (he.h.symm.trans (glO_perm he.nh)) hms
 have hpn := hsf.pn
 have hgn := hsf.hn
 have hmn := hsf.mn
 rw [plO_len] at hpn
 rw [glO_len] at hgn
 rw [mlO_len] at hmn
 have hpfew : (s.ps.map (·.1)).length ≤ 256 := by rw [List.length_map]; exact hpn
 have hgfew : (s.hs.map (·.1)).length ≤ 256 := by rw [List.length_map]; omega
 have hmfew : (ms.map (·.1)).length ≤ 256 := by rw [List.length_map]; omega
 have hpfew2 : (plO s).length ≤ 256 := by rw [plO_len]; exact hpn
 have hgfew2 : (glO s).length ≤ 256 := by rw [glO_len]; omega
 have hmfew2 : (mlO X ms).length ≤ 256 := by rw [mlO_len]; omega
 have hfpl := hsf.pl
 rw [plO_len] at hfpl
 have hfgl := hsf.hl
 rw [glO_len] at hfgl
 have hfml := hsf.ml
 rw [mlO_len] at hfml
 have hfla := hsf.la
 rw [← he.l] at hfla
 have hfsu := hsf.su
 rw [← he.u] at hfsu
 have hmall : ∀ k,(msL ((mlO X ms).take k)).length ≤ 4459 * 64 := fun k => Nat.le_trans (msL_len _ fun p hp => mem_fit (hsf.mm p (List.mem_of_mem_take hp)) hla) (Nat.mul_le_mul_left _ (by rw [List.length_take]; have := hsf.mn; omega))
 refine enter (n := 114) Tryz.func49 rfl Tryz.ntmps49 rfl ?_ hw
 refine csr (bxa fun b1 => ?_)
 refine lE oas (lnc (alE fun b2 => lnf (c_seq (c_emp (r := rowF BytF 5 none 0 []) (row_nil _ _ _) (c_pi [1,0,2,3,4,5,6] 7 rfl (by kernel_rfl) ?_)))))
 refine c_merge (L := wrL b2 none 0 [] 0) (M := [pt b1 (.cells #[.map (some mp),.map (some mh),Ix (s.last),Ix (s.su.a0),Ix (s.su.a1),Ix (s.su.a2),Ix (s.su.a3),.map (some mm)] 88),mpR PuM mp s.ps,mpR HoM mh s.hs,mpR MeM mm ms,memR zs]) (r := wrR b2 []) (fun a h => wrR_start a h) ?_
 refine c_region (lE ofp (lE (olg 1) (l_call rfl rfl rfl (cl0 (vs := [pp b2 0,.agg (amC s.su),.int .i64 (63)]) tt83.ok rfl rfl) ?_)))
 intro w hw
 replace hw := hw.perm (L' := _ :: _ :: _ :: _ :: _ :: _ :: []) (by exact ((((((perm_front 5 rfl).trans (perm_front 5 rfl)).trans (perm_front 5 rfl)).trans (perm_front 5 rfl)).trans (perm_front 5 rfl)).trans (perm_front 5 rfl)))
 obtain ⟨β1,sb,kn,hw1,back⟩ := St.frame (L := [_]) (M := _ :: _ :: _ :: _ :: _ :: []) hw
 refine (tamR_ok β1 w b2 [] hw1 s.su 63 (by decide) (fits_all hfsu) (by simp only [List.length_append,bitsV_len,amL_len,psL_len,hsL_len,nsL_len,dealL_len,List.length_take,List.length_nil]; omega)).mono ?_
 rintro e w' ⟨rfl,hw'⟩
 refine ⟨_,rfl,_,back _ _ hw',?_⟩
 clear hw hw1 hw' back kn sb
 refine lnc (lE ofp (lE (oli 1) (l_call rfl rfl rfl (cl0 (vs := [pp b2 0,Ix (s.last),.int .i64 (48)]) tt82.ok rfl rfl) ?_)))
 intro w hw
 replace hw := hw.perm (L' := _ :: _ :: _ :: _ :: _ :: _ :: []) (by exact ((((((perm_front 5 rfl).trans (perm_front 5 rfl)).trans (perm_front 5 rfl)).trans (perm_front 5 rfl)).trans (perm_front 5 rfl)).trans (perm_front 5 rfl)))
 obtain ⟨β1,sb,kn,hw1,back⟩ := St.frame (L := [_]) (M := _ :: _ :: _ :: _ :: _ :: []) hw
 refine (tputR_ok β1 w b2 ([] ++ amL s.su 63) hw1 s.last 48 hfla (by simp only [List.length_append,bitsV_len,amL_len,psL_len,hsL_len,nsL_len,dealL_len,List.length_take,List.length_nil]; omega)).mono ?_
 rintro e w' ⟨rfl,hw'⟩
 refine ⟨_,rfl,_,back _ _ hw',?_⟩
 clear hw hw1 hw' back kn sb
 refine lnc (lE ofp (lv (v := .map (some mp)) (e_load1 tt33.ok rfl (k_pt 1 rfl rfl)) ?_))
 refine lv (v := Nx (s.ps.length)) (e_mlen (K := PuM) (b := mp) (ks := s.ps) rfl rfl (Knows.of_res 2 rfl (mpR.mono _ _ _) fun _ h => h)) ?_
 refine l_call rfl rfl rfl (cl0 (vs := [pp b2 0,Nx (s.ps.length),.int .i64 (9)]) tt82.ok rfl rfl) ?_
 intro w hw
 replace hw := hw.perm (L' := _ :: _ :: _ :: _ :: _ :: _ :: []) (by exact ((((((perm_front 5 rfl).trans (perm_front 5 rfl)).trans (perm_front 5 rfl)).trans (perm_front 5 rfl)).trans (perm_front 5 rfl)).trans (perm_front 5 rfl)))
 obtain ⟨β1,sb,kn,hw1,back⟩ := St.frame (L := [_]) (M := _ :: _ :: _ :: _ :: _ :: []) hw
 refine (tputR_ok β1 w b2 (([] ++ amL s.su 63) ++ bitsV (U s.last) 48) hw1 ((s.ps.length : Nat) : Int) 9 hfpl (by simp only [List.length_append,bitsV_len,amL_len,psL_len,hsL_len,nsL_len,dealL_len,List.length_take,List.length_nil]; omega)).mono ?_
 rintro e w' ⟨rfl,hw'⟩
 refine ⟨_,rfl,_,back _ _ hw',?_⟩
 clear hw hw1 hw' back kn sb
 refine lnf (cs2 (c_region (lE ofp (lv (v := .map (some mp)) (e_load1 tt33.ok rfl (k_pt 1 rfl rfl)) ?_))))
 refine lcf (cl0 (vs := [.map (some mp)]) tt113.ok rfl rfl) rfl fun w β1 sb kn hw1 back => (keysP_ok β1 w hw1 mp).mono ?_
 rintro e w' ⟨b3,rfl,hw'⟩
 refine ⟨_,rfl,_,back _ _ hw',?_⟩
 clear hw1 hw' back kn sb
 refine l_call rfl rfl rfl (cl0 (vs := [.func (.func 80) #[] #[pp b3 0]]) tt114.ok rfl rfl) ?_
 intro w hw
 replace hw := hw.perm (L' := _ :: _ :: _ :: _ :: _ :: _ :: _ :: []) (by exact (((((((perm_front 6 rfl).trans (perm_front 6 rfl)).trans (perm_front 6 rfl)).trans (perm_front 6 rfl)).trans (perm_front 6 rfl)).trans (perm_front 6 rfl)).trans (perm_front 6 rfl)))
 obtain ⟨β1,sb,kn,hw1,back⟩ := St.frame (L := [_]) (M := _ :: _ :: _ :: _ :: _ :: _ :: []) hw
 refine (sortedM_ok β1 w _ _ _ (keysP_seq β1 b3 mp s.ps (kn _ (Knows.of_res 2 rfl (mpR.mono _ _ _) fun _ h => h))) (Nat.le_trans hpfew (by decide)) hw1).mono ?_
 rintro e w' ⟨p4,c5,rfl,hw'⟩
 refine ⟨_,rfl,_,back _ _ hw',?_⟩
 clear hw hw1 hw' back kn sb
 refine lE oln (lE omi (lnf (c_block ?_)))
 refine c_loop (fun (kp : Nat) f L => (f 1 = pp b1 0 ∧ f 3 = pp b2 0 ∧ f 27 = sB p4 (sortI (s.ps.map (·.1))) c5 ∧ f 28 = Nx ((sortI (s.ps.map (·.1))).length) ∧ f 29 = Nx (kp)) ∧ L = [rowF IntF 3 p4 c5 (sortI (s.ps.map (·.1))),wrR b2 (((([] ++ amL s.su 63) ++ bitsV (U s.last) 48) ++ bitsV (U ((s.ps.length : Nat) : Int)) 9) ++ psL ((plO s).take kp)),pt b1 (.cells #[.map (some mp),.map (some mh),Ix (s.last),Ix (s.su.a0),Ix (s.su.a1),Ix (s.su.a2),Ix (s.su.a3),.map (some mm)] 88),mpR PuM mp s.ps,mpR HoM mh s.hs,mpR MeM mm ms,memR zs] ∧ (kp ≤ (sortI (s.ps.map (·.1))).length)) (fun kp => (sortI (s.ps.map (·.1))).length - kp) 0 ?_ ?_
 ·exact ⟨⟨rfl,rfl,rfl,rfl,rfl⟩,by rw [show (plO s).take 0 = [] from rfl,show psL [] = [] from rfl,List.append_nil] <;> rfl,Nat.zero_le _⟩
 rintro kp f0 L0 ⟨⟨hs1,hs3,hs27,hs28,hs29⟩,hL,hkp⟩
 subst L0
 refine rbs 1 hs1 (rbs 3 hs3 (rbs 27 hs27 (rbs 28 hs28 (rbs 29 hs29 ?_))))
 have hsl := sortI_len (s.ps.map (·.1))
 have holp : ((plO s)).length ≤ 256 := hpfew2
 refine csr (lE olt (lnf (c_seq (c_if _ rfl (fun hc6 => ?_) (fun hc6 => ?_)))))
 ·refine csk (c_seq (c_block (csr (lv (v := .pointer (some ((ba p4).add (kp * 1)))) (e_indexFlN 0 (F := IntF) rfl rfl rfl tt29 (by omega) rfl) ?_))))
  obtain ⟨x7,hx8⟩ : ∃ x_,(sortI (s.ps.map (·.1)))[kp]? = some x_ := ⟨_,List.getElem?_eq_getElem (by first | omega | decide)⟩
  refine lv (v := Ix (x7)) (e_load1 tt2.ok rfl (k_flAt 0 (F := IntF) rfl hx8)) (lE oai (lnf (c_seq ?_)))
  have hpt := pl_take (s := s) hx8
  have hxf := hsf.pp _ hpt.2
  refine c_region (lE omi (l_call rfl rfl rfl (cl0 (vs := [pp b2 0,Ix (x7),.int .i64 (17)]) tt82.ok rfl rfl) ?_))
  intro w hw
  replace hw := hw.perm (L' := _ :: _ :: _ :: _ :: _ :: _ :: _ :: []) (by exact (((((((perm_front 6 rfl).trans (perm_front 6 rfl)).trans (perm_front 6 rfl)).trans (perm_front 6 rfl)).trans (perm_front 6 rfl)).trans (perm_front 5 rfl)).trans (perm_front 6 rfl)))
  obtain ⟨β1,sb,kn,hw1,back⟩ := St.frame (L := [_]) (M := _ :: _ :: _ :: _ :: _ :: _ :: []) hw
  refine (tputR_ok β1 w b2 (((([] ++ amL s.su 63) ++ bitsV (U s.last) 48) ++ bitsV (U ((s.ps.length : Nat) : Int)) 9) ++ psL ((plO s).take kp)) hw1 x7 17 hxf.1 (by simp only [List.length_append,bitsV_len,amL_len,psL_len,hsL_len,nsL_len,dealL_len,List.length_take,List.length_nil]; omega)).mono ?_
  rintro e w' ⟨rfl,hw'⟩
  refine ⟨_,rfl,_,back _ _ hw',?_⟩
  clear hw hw1 hw' back kn sb
  refine lnr (lE ofp (lv (v := .map (some mp)) (e_load1 tt33.ok rfl (k_pt 2 rfl rfl)) (lE omi ?_)))
  refine lv (v := .agg (amC ((PuM.look s.ps (x7)).getD zeroA))) (e_look1 (K := PuM) (b := mp) (ks := s.ps) (k := (x7)) rfl rfl rfl (Knows.of_res 3 rfl (mpR.mono _ _ _) fun _ h => h)) ?_
  refine l_call rfl rfl rfl (cl0 (vs := [pp b2 0,.agg (amC ((PuM.look s.ps (x7)).getD zeroA)),.int .i64 (31)]) tt83.ok rfl rfl) ?_
  intro w hw
  replace hw := hw.perm (L' := _ :: _ :: _ :: _ :: _ :: _ :: _ :: []) (by exact (((((((perm_front 6 rfl).trans (perm_front 6 rfl)).trans (perm_front 6 rfl)).trans (perm_front 6 rfl)).trans (perm_front 6 rfl)).trans (perm_front 6 rfl)).trans (perm_front 6 rfl)))
  obtain ⟨β1,sb,kn,hw1,back⟩ := St.frame (L := [_]) (M := _ :: _ :: _ :: _ :: _ :: _ :: []) hw
  refine (tamR_ok β1 w b2 ((((([] ++ amL s.su 63) ++ bitsV (U s.last) 48) ++ bitsV (U ((s.ps.length : Nat) : Int)) 9) ++ psL ((plO s).take kp)) ++ bitsV (U x7) 17) hw1 ((PuM.look s.ps (x7)).getD zeroA) 31 (by decide) (fits_all hxf.2) (by simp only [List.length_append,bitsV_len,amL_len,psL_len,hsL_len,nsL_len,dealL_len,List.length_take,List.length_nil]; omega)).mono ?_
  rintro e w' ⟨rfl,hw'⟩
  refine ⟨_,rfl,_,back _ _ hw',?_⟩
  clear hw hw1 hw' back kn sb
  refine l_nil (f_block (f_then (c_region (lv (v := Nx (kp + 1)) (e_add rfl rfl (i64n (by omega) (by omega))) (lE omi (l_nil (fpn [1,0,2,3,4,5,6] 7 ?_)))))))
  exact f_cut ⟨kp + 1,⟨⟨rfl,rfl,rfl,rfl,rfl⟩,by rw [hpt.1]; simp only [sB,rB,List.append_assoc]; rfl,(by omega)⟩,(show (sortI (s.ps.map (·.1))).length - (kp + 1) < (sortI (s.ps.map (·.1))).length - kp from by omega)⟩
 refine c_exit (f_then_exit (f_then_exit (f_exit (fts ?_))))
 have hkpe : kp = (plO s).length := by rw [plO_len]; have := sortI_len (s.ps.map (·.1)); rw [List.length_map] at this; omega
 refine c_re (L' := [rowF IntF 3 p4 c5 (sortI (s.ps.map (·.1))),wrR b2 (((([] ++ amL s.su 63) ++ bitsV (U s.last) 48) ++ bitsV (U ((s.ps.length : Nat) : Int)) 9) ++ psL (plO s)),pt b1 (.cells #[.map (some mp),.map (some mh),Ix (s.last),Ix (s.su.a0),Ix (s.su.a1),Ix (s.su.a2),Ix (s.su.a3),.map (some mm)] 88),mpR PuM mp s.ps,mpR HoM mh s.hs,mpR MeM mm ms,memR zs]) (by rw [hkpe,List.take_length]) ?_
 refine c_region (lE ofp (lv (v := .map (some mh)) (e_load1 tt39.ok rfl (k_pt 2 rfl rfl)) ?_))
 refine lv (v := Nx (s.hs.length)) (e_mlen (K := HoM) (b := mh) (ks := s.hs) rfl rfl (Knows.of_res 4 rfl (mpR.mono _ _ _) fun _ h => h)) ?_
 refine l_call rfl rfl rfl (cl0 (vs := [pp b2 0,Nx (s.hs.length),.int .i64 (9)]) tt82.ok rfl rfl) ?_
 intro w hw
 replace hw := hw.perm (L' := _ :: _ :: _ :: _ :: _ :: _ :: _ :: []) (by exact (((((((perm_front 6 rfl).trans (perm_front 6 rfl)).trans (perm_front 6 rfl)).trans (perm_front 6 rfl)).trans (perm_front 6 rfl)).trans (perm_front 5 rfl)).trans (perm_front 6 rfl)))
 obtain ⟨β1,sb,kn,hw1,back⟩ := St.frame (L := [_]) (M := _ :: _ :: _ :: _ :: _ :: _ :: []) hw
 refine (tputR_ok β1 w b2 (((([] ++ amL s.su 63) ++ bitsV (U s.last) 48) ++ bitsV (U ((s.ps.length : Nat) : Int)) 9) ++ psL (plO s)) hw1 ((s.hs.length : Nat) : Int) 9 hfgl (by simp only [List.length_append,bitsV_len,amL_len,psL_len,hsL_len,nsL_len,dealL_len,List.length_take,List.length_nil]; omega)).mono ?_
 rintro e w' ⟨rfl,hw'⟩
 refine ⟨_,rfl,_,back _ _ hw',?_⟩
 clear hw hw1 hw' back kn sb
 refine lnf (cs2 (c_region (lE ofp (lv (v := .map (some mh)) (e_load1 tt39.ok rfl (k_pt 2 rfl rfl)) ?_))))
 refine lcf (cl0 (vs := [.map (some mh)]) tt115.ok rfl rfl) rfl fun w β1 sb kn hw1 back => (keysH_ok β1 w hw1 mh).mono ?_
 rintro e w' ⟨b9,rfl,hw'⟩
 refine ⟨_,rfl,_,back _ _ hw',?_⟩
 clear hw1 hw' back kn sb
 refine l_call rfl rfl rfl (cl0 (vs := [.func (.func 79) #[] #[pp b9 0]]) tt114.ok rfl rfl) ?_
 intro w hw
 replace hw := hw.perm (L' := _ :: _ :: _ :: _ :: _ :: _ :: _ :: _ :: []) (by exact ((((((((perm_front 7 rfl).trans (perm_front 7 rfl)).trans (perm_front 7 rfl)).trans (perm_front 7 rfl)).trans (perm_front 7 rfl)).trans (perm_front 7 rfl)).trans (perm_front 7 rfl)).trans (perm_front 7 rfl)))
 obtain ⟨β1,sb,kn,hw1,back⟩ := St.frame (L := [_]) (M := _ :: _ :: _ :: _ :: _ :: _ :: _ :: []) hw
 refine (sortedM_ok β1 w _ _ _ (keysH_seq β1 b9 mh s.hs (kn _ (Knows.of_res 4 rfl (mpR.mono _ _ _) fun _ h => h))) (Nat.le_trans hgfew (by decide)) hw1).mono ?_
 rintro e w' ⟨p10,c11,rfl,hw'⟩
 refine ⟨_,rfl,_,back _ _ hw',?_⟩
 clear hw hw1 hw' back kn sb
 refine lE oln (lE omi (lnf (c_block ?_)))
 refine c_loop (fun (kg : Nat) f L => (f 1 = pp b1 0 ∧ f 3 = pp b2 0 ∧ f 48 = sB p10 (sortI (s.hs.map (·.1))) c11 ∧ f 49 = Nx ((sortI (s.hs.map (·.1))).length) ∧ f 50 = Nx (kg)) ∧ L = [rowF IntF 3 p10 c11 (sortI (s.hs.map (·.1))),wrR b2 (((((([] ++ amL s.su 63) ++ bitsV (U s.last) 48) ++ bitsV (U ((s.ps.length : Nat) : Int)) 9) ++ psL (plO s)) ++ bitsV (U ((s.hs.length : Nat) : Int)) 9) ++ hsL ((glO s).take kg)),rowF IntF 3 p4 c5 (sortI (s.ps.map (·.1))),pt b1 (.cells #[.map (some mp),.map (some mh),Ix (s.last),Ix (s.su.a0),Ix (s.su.a1),Ix (s.su.a2),Ix (s.su.a3),.map (some mm)] 88),mpR PuM mp s.ps,mpR HoM mh s.hs,mpR MeM mm ms,memR zs] ∧ (kg ≤ (sortI (s.hs.map (·.1))).length)) (fun kg => (sortI (s.hs.map (·.1))).length - kg) 0 ?_ ?_
 ·exact ⟨⟨rfl,rfl,rfl,rfl,rfl⟩,by rw [show (glO s).take 0 = [] from rfl,show hsL [] = [] from rfl,List.append_nil] <;> rfl,Nat.zero_le _⟩
 rintro kg f0 L0 ⟨⟨hs1,hs3,hs48,hs49,hs50⟩,hL,hkg⟩
 subst L0
 refine rbs 1 hs1 (rbs 3 hs3 (rbs 48 hs48 (rbs 49 hs49 (rbs 50 hs50 ?_))))
 have hsl := sortI_len (s.hs.map (·.1))
 have holg : ((glO s)).length ≤ 256 := hgfew2
 refine csr (lE olt (lnf (c_seq (c_if _ rfl (fun hc12 => ?_) (fun hc12 => ?_)))))
 ·refine csk (c_seq (c_block (csr (lv (v := .pointer (some ((ba p10).add (kg * 1)))) (e_indexFlN 0 (F := IntF) rfl rfl rfl tt29 (by omega) rfl) ?_))))
  obtain ⟨x13,hx14⟩ : ∃ x_,(sortI (s.hs.map (·.1)))[kg]? = some x_ := ⟨_,List.getElem?_eq_getElem (by first | omega | decide)⟩
  refine lv (v := Ix (x13)) (e_load1 tt2.ok rfl (k_flAt 0 (F := IntF) rfl hx14)) (lE oai (lnf (c_seq ?_)))
  have hgt := gl_take (s := s) hx14
  have hxf := hsf.hh _ hgt.2
  refine c_region (lE ofp (lv (v := .map (some mh)) (e_load1 tt39.ok rfl (k_pt 3 rfl rfl)) (lE omi ?_)))
  refine lv (v := .agg #[Ix (((HoM.look s.hs (x13)).getD zeroH).number),Ix (((HoM.look s.hs (x13)).getD zeroH).owner),Ix (((HoM.look s.hs (x13)).getD zeroH).a.a0),Ix (((HoM.look s.hs (x13)).getD zeroH).a.a1),Ix (((HoM.look s.hs (x13)).getD zeroH).a.a2),Ix (((HoM.look s.hs (x13)).getD zeroH).a.a3)]) (e_look1 (K := HoM) (b := mh) (ks := s.hs) (k := (x13)) rfl rfl rfl (Knows.of_res 5 rfl (mpR.mono _ _ _) fun _ h => h)) ?_
  refine alE fun b15 => ?_
  refine lu (mS 0 (#[Ix (((HoM.look s.hs (x13)).getD zeroH).number),Ix (((HoM.look s.hs (x13)).getD zeroH).owner),Ix (((HoM.look s.hs (x13)).getD zeroH).a.a0),Ix (((HoM.look s.hs (x13)).getD zeroH).a.a1),Ix (((HoM.look s.hs (x13)).getD zeroH).a.a2),Ix (((HoM.look s.hs (x13)).getD zeroH).a.a3)])) ?_
  refine lnc (lE omi (l_call rfl rfl rfl (cl0 (vs := [pp b2 0,Ix (x13),.int .i64 (48)]) tt82.ok rfl rfl) ?_))
  intro w hw
  replace hw := hw.perm (L' := _ :: _ :: _ :: _ :: _ :: _ :: _ :: _ :: _ :: []) (by exact (((((((((perm_front 8 rfl).trans (perm_front 8 rfl)).trans (perm_front 8 rfl)).trans (perm_front 8 rfl)).trans (perm_front 8 rfl)).trans (perm_front 8 rfl)).trans (perm_front 7 rfl)).trans (perm_front 7 rfl)).trans (perm_front 8 rfl)))
  obtain ⟨β1,sb,kn,hw1,back⟩ := St.frame (L := [_]) (M := _ :: _ :: _ :: _ :: _ :: _ :: _ :: _ :: []) hw
  refine (tputR_ok β1 w b2 (((((([] ++ amL s.su 63) ++ bitsV (U s.last) 48) ++ bitsV (U ((s.ps.length : Nat) : Int)) 9) ++ psL (plO s)) ++ bitsV (U ((s.hs.length : Nat) : Int)) 9) ++ hsL ((glO s).take kg)) hw1 x13 48 hxf.1 (by simp only [List.length_append,bitsV_len,amL_len,psL_len,hsL_len,nsL_len,dealL_len,List.length_take,List.length_nil]; omega)).mono ?_
  rintro e w' ⟨rfl,hw'⟩
  refine ⟨_,rfl,_,back _ _ hw',?_⟩
  clear hw hw1 hw' back kn sb
  refine lnc (lE ofp (lE (oli 1) ?_))
  refine l_call rfl rfl rfl (cl0 (vs := [pp b2 0,Ix (((HoM.look s.hs (x13)).getD zeroH).owner),.int .i64 (17)]) tt82.ok rfl rfl) ?_
  intro w hw
  replace hw := hw.perm (L' := _ :: _ :: _ :: _ :: _ :: _ :: _ :: _ :: _ :: []) (by exact (((((((((perm_front 8 rfl).trans (perm_front 8 rfl)).trans (perm_front 8 rfl)).trans (perm_front 8 rfl)).trans (perm_front 8 rfl)).trans (perm_front 8 rfl)).trans (perm_front 8 rfl)).trans (perm_front 8 rfl)).trans (perm_front 8 rfl)))
  obtain ⟨β1,sb,kn,hw1,back⟩ := St.frame (L := [_]) (M := _ :: _ :: _ :: _ :: _ :: _ :: _ :: _ :: []) hw
  refine (tputR_ok β1 w b2 ((((((([] ++ amL s.su 63) ++ bitsV (U s.last) 48) ++ bitsV (U ((s.ps.length : Nat) : Int)) 9) ++ psL (plO s)) ++ bitsV (U ((s.hs.length : Nat) : Int)) 9) ++ hsL ((glO s).take kg)) ++ bitsV (U x13) 48) hw1 (((HoM.look s.hs (x13)).getD zeroH).owner) 17 hxf.2.1 (by simp only [List.length_append,bitsV_len,amL_len,psL_len,hsL_len,nsL_len,dealL_len,List.length_take,List.length_nil]; omega)).mono ?_
  rintro e w' ⟨rfl,hw'⟩
  refine ⟨_,rfl,_,back _ _ hw',?_⟩
  clear hw hw1 hw' back kn sb
  refine lnr (lE ofp (lE (olg 1) ?_))
  refine l_call rfl rfl rfl (cl0 (vs := [pp b2 0,.agg #[Ix (((HoM.look s.hs (x13)).getD zeroH).a.a0),Ix (((HoM.look s.hs (x13)).getD zeroH).a.a1),Ix (((HoM.look s.hs (x13)).getD zeroH).a.a2),Ix (((HoM.look s.hs (x13)).getD zeroH).a.a3)],.int .i64 (31)]) tt83.ok rfl rfl) ?_
  intro w hw
  replace hw := hw.perm (L' := _ :: _ :: _ :: _ :: _ :: _ :: _ :: _ :: _ :: []) (by exact (((((((((perm_front 8 rfl).trans (perm_front 8 rfl)).trans (perm_front 8 rfl)).trans (perm_front 8 rfl)).trans (perm_front 8 rfl)).trans (perm_front 8 rfl)).trans (perm_front 8 rfl)).trans (perm_front 8 rfl)).trans (perm_front 8 rfl)))
  obtain ⟨β1,sb,kn,hw1,back⟩ := St.frame (L := [_]) (M := _ :: _ :: _ :: _ :: _ :: _ :: _ :: _ :: []) hw
  refine (tamR_ok β1 w b2 (((((((([] ++ amL s.su 63) ++ bitsV (U s.last) 48) ++ bitsV (U ((s.ps.length : Nat) : Int)) 9) ++ psL (plO s)) ++ bitsV (U ((s.hs.length : Nat) : Int)) 9) ++ hsL ((glO s).take kg)) ++ bitsV (U x13) 48) ++ bitsV (U (((HoM.look s.hs (x13)).getD zeroH).owner)) 17) hw1 (((HoM.look s.hs (x13)).getD zeroH).a) 31 (by decide) (fits_all hxf.2.2.1) (by simp only [List.length_append,bitsV_len,amL_len,psL_len,hsL_len,nsL_len,dealL_len,List.length_take,List.length_nil]; omega)).mono ?_
  rintro e w' ⟨rfl,hw'⟩
  refine ⟨_,rfl,_,back _ _ hw',?_⟩
  clear hw hw1 hw' back kn sb
  refine l_nil (f_block (f_then (c_region (lv (v := Nx (kg + 1)) (e_add rfl rfl (i64n (by omega) (by omega))) (lE omi (l_nil ?_))))))
  refine fpn [2,0,3,4,5,6,7,8,1] 9 ?_
  refine f_mask [true,true,true,true,true,true,true,true,false] rfl ?_
  exact f_cut ⟨kg + 1,⟨⟨rfl,rfl,rfl,rfl,rfl⟩,by rw [hgt.1]; simp only [sB,rB,List.append_assoc]; rfl,(by omega)⟩,(show (sortI (s.hs.map (·.1))).length - (kg + 1) < (sortI (s.hs.map (·.1))).length - kg from by omega)⟩
 refine c_exit (f_then_exit (f_then_exit (f_exit (fts ?_))))
 have hkge : kg = (glO s).length := by rw [glO_len]; have := sortI_len (s.hs.map (·.1)); rw [List.length_map] at this; omega
 refine c_re (L' := [rowF IntF 3 p10 c11 (sortI (s.hs.map (·.1))),wrR b2 (((((([] ++ amL s.su 63) ++ bitsV (U s.last) 48) ++ bitsV (U ((s.ps.length : Nat) : Int)) 9) ++ psL (plO s)) ++ bitsV (U ((s.hs.length : Nat) : Int)) 9) ++ hsL (glO s)),rowF IntF 3 p4 c5 (sortI (s.ps.map (·.1))),pt b1 (.cells #[.map (some mp),.map (some mh),Ix (s.last),Ix (s.su.a0),Ix (s.su.a1),Ix (s.su.a2),Ix (s.su.a3),.map (some mm)] 88),mpR PuM mp s.ps,mpR HoM mh s.hs,mpR MeM mm ms,memR zs]) (by rw [hkge,List.take_length]) ?_
 refine c_region (lE ofp (lv (v := .map (some mm)) (e_load1 tt58.ok rfl (k_pt 3 rfl rfl)) ?_))
 refine lv (v := Nx (ms.length)) (e_mlen (K := MeM) (b := mm) (ks := ms) rfl rfl (Knows.of_res 6 rfl (mpR.mono _ _ _) fun _ h => h)) ?_
 refine l_call rfl rfl rfl (cl0 (vs := [pp b2 0,Nx (ms.length),.int .i64 (9)]) tt82.ok rfl rfl) ?_
 intro w hw
 replace hw := hw.perm (L' := _ :: _ :: _ :: _ :: _ :: _ :: _ :: _ :: []) (by exact ((((((((perm_front 7 rfl).trans (perm_front 7 rfl)).trans (perm_front 7 rfl)).trans (perm_front 7 rfl)).trans (perm_front 7 rfl)).trans (perm_front 7 rfl)).trans (perm_front 6 rfl)).trans (perm_front 7 rfl)))
 obtain ⟨β1,sb,kn,hw1,back⟩ := St.frame (L := [_]) (M := _ :: _ :: _ :: _ :: _ :: _ :: _ :: []) hw
 refine (tputR_ok β1 w b2 (((((([] ++ amL s.su 63) ++ bitsV (U s.last) 48) ++ bitsV (U ((s.ps.length : Nat) : Int)) 9) ++ psL (plO s)) ++ bitsV (U ((s.hs.length : Nat) : Int)) 9) ++ hsL (glO s)) hw1 ((ms.length : Nat) : Int) 9 hfml (by simp only [List.length_append,bitsV_len,amL_len,psL_len,hsL_len,nsL_len,dealL_len,List.length_take,List.length_nil]; omega)).mono ?_
 rintro e w' ⟨rfl,hw'⟩
 refine ⟨_,rfl,_,back _ _ hw',?_⟩
 clear hw hw1 hw' back kn sb
 refine lnf (cs2 (c_region (lE ofp (lv (v := .map (some mm)) (e_load1 tt58.ok rfl (k_pt 3 rfl rfl)) ?_))))
 refine lcf (cl0 (vs := [.map (some mm)]) tt185.ok rfl rfl) rfl fun w β1 sb kn hw1 back => (keysM_ok β1 w hw1 mm).mono ?_
 rintro e w' ⟨b16,rfl,hw'⟩
 refine ⟨_,rfl,_,back _ _ hw',?_⟩
 clear hw1 hw' back kn sb
 refine l_call rfl rfl rfl (cl0 (vs := [.func (.func 121) #[] #[pp b16 0]]) tt114.ok rfl rfl) ?_
 intro w hw
 replace hw := hw.perm (L' := _ :: _ :: _ :: _ :: _ :: _ :: _ :: _ :: _ :: []) (by exact (((((((((perm_front 8 rfl).trans (perm_front 8 rfl)).trans (perm_front 8 rfl)).trans (perm_front 8 rfl)).trans (perm_front 8 rfl)).trans (perm_front 8 rfl)).trans (perm_front 8 rfl)).trans (perm_front 8 rfl)).trans (perm_front 8 rfl)))
 obtain ⟨β1,sb,kn,hw1,back⟩ := St.frame (L := [_]) (M := _ :: _ :: _ :: _ :: _ :: _ :: _ :: _ :: []) hw
 refine (sortedM_ok β1 w _ _ _ (keysM_seq β1 b16 mm ms (kn _ (Knows.of_res 6 rfl (mpR.mono _ _ _) fun _ h => h))) (Nat.le_trans hmfew (by decide)) hw1).mono ?_
 rintro e w' ⟨p17,c18,rfl,hw'⟩
 refine ⟨_,rfl,_,back _ _ hw',?_⟩
 clear hw hw1 hw' back kn sb
 refine lE oln (lE omi (lnf (c_block ?_)))
 refine c_loop (fun (km : Nat) f L => (f 1 = pp b1 0 ∧ f 3 = pp b2 0 ∧ f 74 = sB p17 (sortI (ms.map (·.1))) c18 ∧ f 75 = Nx ((sortI (ms.map (·.1))).length) ∧ f 76 = Nx (km)) ∧ L = [rowF IntF 3 p17 c18 (sortI (ms.map (·.1))),wrR b2 (((((((([] ++ amL s.su 63) ++ bitsV (U s.last) 48) ++ bitsV (U ((s.ps.length : Nat) : Int)) 9) ++ psL (plO s)) ++ bitsV (U ((s.hs.length : Nat) : Int)) 9) ++ hsL (glO s)) ++ bitsV (U ((ms.length : Nat) : Int)) 9) ++ msL ((mlO X ms).take km)),rowF IntF 3 p10 c11 (sortI (s.hs.map (·.1))),rowF IntF 3 p4 c5 (sortI (s.ps.map (·.1))),pt b1 (.cells #[.map (some mp),.map (some mh),Ix (s.last),Ix (s.su.a0),Ix (s.su.a1),Ix (s.su.a2),Ix (s.su.a3),.map (some mm)] 88),mpR PuM mp s.ps,mpR HoM mh s.hs,mpR MeM mm ms,memR zs] ∧ (km ≤ (sortI (ms.map (·.1))).length)) (fun km => (sortI (ms.map (·.1))).length - km) 0 ?_ ?_
 ·exact ⟨⟨rfl,rfl,rfl,rfl,rfl⟩,by rw [show (mlO X ms).take 0 = [] from rfl,show msL [] = [] from rfl,List.append_nil] <;> rfl,Nat.zero_le _⟩
 rintro km f0 L0 ⟨⟨hs1,hs3,hs74,hs75,hs76⟩,hL,hkm⟩
 subst L0
 refine rbs 1 hs1 (rbs 3 hs3 (rbs 74 hs74 (rbs 75 hs75 (rbs 76 hs76 ?_))))
 have hsl := sortI_len (ms.map (·.1))
 have holm : ((mlO X ms)).length ≤ 256 := hmfew2
 refine csr (lE olt (lnf (c_seq (c_if _ rfl (fun hc19 => ?_) (fun hc19 => ?_)))))
 ·refine csk (c_seq (c_block (csr (lv (v := .pointer (some ((ba p17).add (km * 1)))) (e_indexFlN 0 (F := IntF) rfl rfl rfl tt29 (by omega) rfl) ?_))))
  obtain ⟨x20,hx21⟩ : ∃ x_,(sortI (ms.map (·.1)))[km]? = some x_ := ⟨_,List.getElem?_eq_getElem (by first | omega | decide)⟩
  refine lv (v := Ix (x20)) (e_load1 tt2.ok rfl (k_flAt 0 (F := IntF) rfl hx21)) (lE oai (lnf (c_seq ?_)))
  obtain ⟨hd,mal,mhl,hlk,hlo,hnl,hml,hdn⟩ := ml_at hmm hkn hx21
  have hmt := ml_take (X := X) hx21 hdn
  have hmk := hxo.m _ _ hdn
  have hmf := mem_fit hmk hla
  have hmd : dformed hd.author hd.number mal = true := hmf.fm
  have hm16 := hmf.few
  have hd16 := hmf.d.few
  replace hm16 : mhl.length ≤ 16 := hm16
  replace hd16 : mal.length ≤ 16 := hd16
  have hmsl : (msL ((mlO X ms).take km)).length ≤ 4459 * 64 := hmall km
  refine c_region (lE ofp (lv (v := .map (some mm)) (e_load1 tt58.ok rfl (k_pt 4 rfl rfl)) (lE omi ?_)))
  refine lv (v := .agg #[Ix (hd.author),Ix (hd.number),.slice hd.p (hd.n) hd.c,.bool (hd.done),Ix (hd.at_),Ix (hd.e),.slice hd.q (hd.m) hd.k]) (ev_eq (congrArg MeM.encv hlk) (e_look1 (K := MeM) (b := mm) (ks := ms) (k := x20) rfl rfl rfl (Knows.of_res 7 rfl (mpR.mono _ _ _) fun _ h => h))) ?_
  refine alE fun b22 => ?_
  refine lu (mS 0 (#[Ix (hd.author),Ix (hd.number),.slice hd.p (hd.n) hd.c,.bool (hd.done),Ix (hd.at_),Ix (hd.e),.slice hd.q (hd.m) hd.k])) (lnc ?_)
  refine lE ofp (lE (olg 0) ?_)
  refine l_call rfl rfl rfl (cl0 (vs := [pp b2 0,.agg #[Ix (hd.author),Ix (hd.number),.slice hd.p (hd.n) hd.c]]) tt86.ok rfl rfl) ?_
  intro w hw
  replace hw := hw.perm (L' := [wrR b2 (((((((([] ++ amL s.su 63) ++ bitsV (U s.last) 48) ++ bitsV (U ((s.ps.length : Nat) : Int)) 9) ++ psL (plO s)) ++ bitsV (U ((s.hs.length : Nat) : Int)) 9) ++ hsL (glO s)) ++ bitsV (U ((ms.length : Nat) : Int)) 9) ++ msL ((mlO X ms).take km)),pt b22 (.cells #[Ix (hd.author),Ix (hd.number),.slice hd.p (hd.n) hd.c,.bool (hd.done),Ix (hd.at_),Ix (hd.e),.slice hd.q (hd.m) hd.k] 82),rowF IntF 3 p17 c18 (sortI (ms.map (·.1))),rowF IntF 3 p10 c11 (sortI (s.hs.map (·.1))),rowF IntF 3 p4 c5 (sortI (s.ps.map (·.1))),pt b1 (.cells #[.map (some mp),.map (some mh),Ix (s.last),Ix (s.su.a0),Ix (s.su.a1),Ix (s.su.a2),Ix (s.su.a3),.map (some mm)] 88),mpR PuM mp s.ps,mpR HoM mh s.hs,mpR MeM mm ms,memR zs]) (by exact (perm_ix [2,0,1,3,4,5,6,7,8,9] 10 rfl (by kernel_rfl) (by kernel_rfl)))
  obtain ⟨β1,sb,kn,hw1,back⟩ := St.frame (L := [_]) (M := _ :: _ :: _ :: _ :: _ :: _ :: _ :: _ :: _ :: []) hw
  refine (tdealR_ok β1 w b2 (((((((([] ++ amL s.su 63) ++ bitsV (U s.last) 48) ++ bitsV (U ((s.ps.length : Nat) : Int)) 9) ++ psL (plO s)) ++ bitsV (U ((s.hs.length : Nat) : Int)) 9) ++ hsL (glO s)) ++ bitsV (U ((ms.length : Nat) : Int)) 9) ++ msL ((mlO X ms).take km)) hw1 hd.author hd.number _ mal (kn _ (k_lkA 8 rfl hlo)) hmd (by simp only [List.length_append,bitsV_len,amL_len,psL_len,hsL_len,nsL_len,dealL_len,List.length_take,List.length_nil]; omega)).mono ?_
  rintro e w' ⟨rfl,hw'⟩
  refine ⟨_,rfl,_,back _ _ hw',?_⟩
  clear hw hw1 hw' back kn sb
  refine lnc (lE ofp (lE ofp (lE (ols 1) (lE oln (l_call rfl rfl rfl (cl0 (vs := [pp b2 0,Nx (hd.m),.int .i64 (9)]) tt82.ok rfl rfl) ?_)))))
  intro w hw
  replace hw := hw.perm (L' := [wrR b2 ((((((((([] ++ amL s.su 63) ++ bitsV (U s.last) 48) ++ bitsV (U ((s.ps.length : Nat) : Int)) 9) ++ psL (plO s)) ++ bitsV (U ((s.hs.length : Nat) : Int)) 9) ++ hsL (glO s)) ++ bitsV (U ((ms.length : Nat) : Int)) 9) ++ msL ((mlO X ms).take km)) ++ dealL hd.author hd.number mal),pt b22 (.cells #[Ix (hd.author),Ix (hd.number),.slice hd.p (hd.n) hd.c,.bool (hd.done),Ix (hd.at_),Ix (hd.e),.slice hd.q (hd.m) hd.k] 82),rowF IntF 3 p17 c18 (sortI (ms.map (·.1))),rowF IntF 3 p10 c11 (sortI (s.hs.map (·.1))),rowF IntF 3 p4 c5 (sortI (s.ps.map (·.1))),pt b1 (.cells #[.map (some mp),.map (some mh),Ix (s.last),Ix (s.su.a0),Ix (s.su.a1),Ix (s.su.a2),Ix (s.su.a3),.map (some mm)] 88),mpR PuM mp s.ps,mpR HoM mh s.hs,mpR MeM mm ms,memR zs]) (by exact (perm_ix [0,1,2,3,4,5,6,7,8,9] 10 rfl (by kernel_rfl) (by kernel_rfl)))
  obtain ⟨β1,sb,kn,hw1,back⟩ := St.frame (L := [_]) (M := _ :: _ :: _ :: _ :: _ :: _ :: _ :: _ :: _ :: []) hw
  refine (tputR_ok β1 w b2 ((((((((([] ++ amL s.su 63) ++ bitsV (U s.last) 48) ++ bitsV (U ((s.ps.length : Nat) : Int)) 9) ++ psL (plO s)) ++ bitsV (U ((s.hs.length : Nat) : Int)) 9) ++ hsL (glO s)) ++ bitsV (U ((ms.length : Nat) : Int)) 9) ++ msL ((mlO X ms).take km)) ++ dealL hd.author hd.number mal) hw1 ((hd.m : Nat) : Int) 9 (by rw [hml]; exact hmf.l) (by simp only [List.length_append,bitsV_len,amL_len,psL_len,hsL_len,nsL_len,dealL_len,List.length_take,List.length_nil]; omega)).mono ?_
  rintro e w' ⟨rfl,hw'⟩
  refine ⟨_,rfl,_,back _ _ hw',?_⟩
  clear hw hw1 hw' back kn sb
  refine lnf (cs2 (c_know (p := mhl = [] ∨ hd.q = some (ba hd.q)) (Knows.imp (k_lkH 9 rfl hlo) fun _ h => sl_some h) (fun hqs => ?_)))
  refine c_region (lE ofp (lE ofp (lE (ols 1) (lE oln (lE omi (lnf (c_block ?_)))))))
  refine c_loop (fun (j : Nat) f L => (f 1 = pp b1 0 ∧ f 3 = pp b2 0 ∧ f 11 = pp b22 0 ∧ f 74 = sB p17 (sortI (ms.map (·.1))) c18 ∧ f 75 = Nx ((sortI (ms.map (·.1))).length) ∧ f 76 = Nx (km) ∧ f 94 = .slice hd.q (hd.m) hd.k ∧ f 95 = Nx (hd.m) ∧ f 96 = Nx (j)) ∧ L = [wrR b2 ((((((((((([] ++ amL s.su 63) ++ bitsV (U s.last) 48) ++ bitsV (U ((s.ps.length : Nat) : Int)) 9) ++ psL (plO s)) ++ bitsV (U ((s.hs.length : Nat) : Int)) 9) ++ hsL (glO s)) ++ bitsV (U ((ms.length : Nat) : Int)) 9) ++ msL ((mlO X ms).take km)) ++ dealL hd.author hd.number mal) ++ bitsV (U ((hd.m : Nat) : Int)) 9) ++ nsL (mhl.take j)),pt b22 (.cells #[Ix (hd.author),Ix (hd.number),.slice hd.p (hd.n) hd.c,.bool (hd.done),Ix (hd.at_),Ix (hd.e),.slice hd.q (hd.m) hd.k] 82),rowF IntF 3 p17 c18 (sortI (ms.map (·.1))),rowF IntF 3 p10 c11 (sortI (s.hs.map (·.1))),rowF IntF 3 p4 c5 (sortI (s.ps.map (·.1))),pt b1 (.cells #[.map (some mp),.map (some mh),Ix (s.last),Ix (s.su.a0),Ix (s.su.a1),Ix (s.su.a2),Ix (s.su.a3),.map (some mm)] 88),mpR PuM mp s.ps,mpR HoM mh s.hs,mpR MeM mm ms,memR zs] ∧ (j ≤ mhl.length)) (fun j => mhl.length - j) 0 ?_ ?_
  ·exact ⟨⟨rfl,rfl,rfl,rfl,rfl,rfl,rfl,rfl,rfl⟩,by rw [show mhl.take 0 = [] from rfl,show nsL [] = [] from rfl,List.append_nil] <;> rfl,Nat.zero_le _⟩
  rintro j f0 L0 ⟨⟨hs1,hs3,hs11,hs74,hs75,hs76,hs94,hs95,hs96⟩,hL,hj⟩
  subst L0
  refine rbs 1 hs1 (rbs 3 hs3 (rbs 11 hs11 (rbs 74 hs74 (rbs 75 hs75 (rbs 76 hs76 (rbs 94 hs94 (rbs 95 hs95 (rbs 96 hs96 (csr (lE olt (lnf (c_seq ?_))))))))))))
  refine c_if _ rfl (fun hc23 => ?_) (fun hc23 => ?_)
  ·refine csk (c_seq (c_block (c_seq ?_)))
   obtain ⟨y,hy⟩ : ∃ y,mhl[j]? = some y := ⟨_,List.getElem?_eq_getElem (by omega)⟩
   have hyf := hmf.h _ (List.mem_of_getElem? hy)
   have hqa := hqs.resolve_left (fun q => by rw [q] at hy; cases hy)
   refine c_region ?_
   refine lv (v := .pointer (some ((ba hd.q).add (j * 1)))) (e_indexAddr (k := j) (len := hd.m) (cap := hd.k) (a := hd.q) rfl rfl tt29 (by rw [hml]; omega) hqa) ?_
   refine lv (v := Ix (y)) (e_load1 tt2.ok rfl (Knows.imp (k_lkH 9 rfl hlo) fun _ h => sl_at h hy)) (lE oai (lnr (lE omi ?_)))
   refine l_call rfl rfl rfl (cl0 (vs := [pp b2 0,Ix (y),.int .i64 (48)]) tt82.ok rfl rfl) ?_
   intro w hw
   replace hw := hw.perm (L' := [wrR b2 ((((((((((([] ++ amL s.su 63) ++ bitsV (U s.last) 48) ++ bitsV (U ((s.ps.length : Nat) : Int)) 9) ++ psL (plO s)) ++ bitsV (U ((s.hs.length : Nat) : Int)) 9) ++ hsL (glO s)) ++ bitsV (U ((ms.length : Nat) : Int)) 9) ++ msL ((mlO X ms).take km)) ++ dealL hd.author hd.number mal) ++ bitsV (U ((hd.m : Nat) : Int)) 9) ++ nsL (mhl.take j)),pt b22 (.cells #[Ix (hd.author),Ix (hd.number),.slice hd.p (hd.n) hd.c,.bool (hd.done),Ix (hd.at_),Ix (hd.e),.slice hd.q (hd.m) hd.k] 82),rowF IntF 3 p17 c18 (sortI (ms.map (·.1))),rowF IntF 3 p10 c11 (sortI (s.hs.map (·.1))),rowF IntF 3 p4 c5 (sortI (s.ps.map (·.1))),pt b1 (.cells #[.map (some mp),.map (some mh),Ix (s.last),Ix (s.su.a0),Ix (s.su.a1),Ix (s.su.a2),Ix (s.su.a3),.map (some mm)] 88),mpR PuM mp s.ps,mpR HoM mh s.hs,mpR MeM mm ms,memR zs]) (by exact (perm_ix [0,1,2,3,4,5,6,7,8,9] 10 rfl (by kernel_rfl) (by kernel_rfl)))
   obtain ⟨β1,sb,kn,hw1,back⟩ := St.frame (L := [_]) (M := _ :: _ :: _ :: _ :: _ :: _ :: _ :: _ :: _ :: []) hw
   refine (tputR_ok β1 w b2 ((((((((((([] ++ amL s.su 63) ++ bitsV (U s.last) 48) ++ bitsV (U ((s.ps.length : Nat) : Int)) 9) ++ psL (plO s)) ++ bitsV (U ((s.hs.length : Nat) : Int)) 9) ++ hsL (glO s)) ++ bitsV (U ((ms.length : Nat) : Int)) 9) ++ msL ((mlO X ms).take km)) ++ dealL hd.author hd.number mal) ++ bitsV (U ((hd.m : Nat) : Int)) 9) ++ nsL (mhl.take j)) hw1 y 48 hyf (by simp only [List.length_append,bitsV_len,amL_len,psL_len,hsL_len,nsL_len,dealL_len,List.length_take,List.length_nil]; omega)).mono ?_
   rintro e w' ⟨rfl,hw'⟩
   refine ⟨_,rfl,_,back _ _ hw',?_⟩
   clear hw hw1 hw' back kn sb
   refine l_nil (f_block (f_then (c_region (lv (v := Nx (j + 1)) (e_add rfl rfl (i64n (by omega) (by omega))) (lE omi (l_nil ?_))))))
   exact f_cut ⟨j + 1,⟨⟨rfl,rfl,rfl,rfl,rfl,rfl,rfl,rfl,rfl⟩,by rw [← tk_next hy,nsL_app]; simp only [sB,rB,List.append_assoc]; rfl,(by omega)⟩,(show mhl.length - (j + 1) < mhl.length - j from by omega)⟩
  refine c_exit (f_then_exit (f_then_exit (f_exit (fts ?_))))
  have hje : j = mhl.length := by omega
  refine c_re (L' := [wrR b2 ((((((((((([] ++ amL s.su 63) ++ bitsV (U s.last) 48) ++ bitsV (U ((s.ps.length : Nat) : Int)) 9) ++ psL (plO s)) ++ bitsV (U ((s.hs.length : Nat) : Int)) 9) ++ hsL (glO s)) ++ bitsV (U ((ms.length : Nat) : Int)) 9) ++ msL ((mlO X ms).take km)) ++ dealL hd.author hd.number mal) ++ bitsV (U ((hd.m : Nat) : Int)) 9) ++ nsL mhl),pt b22 (.cells #[Ix (hd.author),Ix (hd.number),.slice hd.p (hd.n) hd.c,.bool (hd.done),Ix (hd.at_),Ix (hd.e),.slice hd.q (hd.m) hd.k] 82),rowF IntF 3 p17 c18 (sortI (ms.map (·.1))),rowF IntF 3 p10 c11 (sortI (s.hs.map (·.1))),rowF IntF 3 p4 c5 (sortI (s.ps.map (·.1))),pt b1 (.cells #[.map (some mp),.map (some mh),Ix (s.last),Ix (s.su.a0),Ix (s.su.a1),Ix (s.su.a2),Ix (s.su.a3),.map (some mm)] 88),mpR PuM mp s.ps,mpR HoM mh s.hs,mpR MeM mm ms,memR zs]) (by rw [hje,List.take_length]) ?_
  refine c_region (lE ofp (lE ofp (lE (oli 1) (l_call rfl rfl rfl (cl0 (vs := [pp b2 0,Ix (hd.at_),.int .i64 (9)]) tt82.ok rfl rfl) ?_))))
  intro w hw
  replace hw := hw.perm (L' := [wrR b2 ((((((((((([] ++ amL s.su 63) ++ bitsV (U s.last) 48) ++ bitsV (U ((s.ps.length : Nat) : Int)) 9) ++ psL (plO s)) ++ bitsV (U ((s.hs.length : Nat) : Int)) 9) ++ hsL (glO s)) ++ bitsV (U ((ms.length : Nat) : Int)) 9) ++ msL ((mlO X ms).take km)) ++ dealL hd.author hd.number mal) ++ bitsV (U ((hd.m : Nat) : Int)) 9) ++ nsL mhl),pt b22 (.cells #[Ix (hd.author),Ix (hd.number),.slice hd.p (hd.n) hd.c,.bool (hd.done),Ix (hd.at_),Ix (hd.e),.slice hd.q (hd.m) hd.k] 82),rowF IntF 3 p17 c18 (sortI (ms.map (·.1))),rowF IntF 3 p10 c11 (sortI (s.hs.map (·.1))),rowF IntF 3 p4 c5 (sortI (s.ps.map (·.1))),pt b1 (.cells #[.map (some mp),.map (some mh),Ix (s.last),Ix (s.su.a0),Ix (s.su.a1),Ix (s.su.a2),Ix (s.su.a3),.map (some mm)] 88),mpR PuM mp s.ps,mpR HoM mh s.hs,mpR MeM mm ms,memR zs]) (by exact (perm_ix [0,1,2,3,4,5,6,7,8,9] 10 rfl (by kernel_rfl) (by kernel_rfl)))
  obtain ⟨β1,sb,kn,hw1,back⟩ := St.frame (L := [_]) (M := _ :: _ :: _ :: _ :: _ :: _ :: _ :: _ :: _ :: []) hw
  refine (tputR_ok β1 w b2 ((((((((((([] ++ amL s.su 63) ++ bitsV (U s.last) 48) ++ bitsV (U ((s.ps.length : Nat) : Int)) 9) ++ psL (plO s)) ++ bitsV (U ((s.hs.length : Nat) : Int)) 9) ++ hsL (glO s)) ++ bitsV (U ((ms.length : Nat) : Int)) 9) ++ msL ((mlO X ms).take km)) ++ dealL hd.author hd.number mal) ++ bitsV (U ((hd.m : Nat) : Int)) 9) ++ nsL mhl) hw1 hd.at_ 9 hmf.at_ (by simp only [List.length_append,bitsV_len,amL_len,psL_len,hsL_len,nsL_len,dealL_len,List.length_take,List.length_nil]; omega)).mono ?_
  rintro e w' ⟨rfl,hw'⟩
  refine ⟨_,rfl,_,back _ _ hw',?_⟩
  clear hw hw1 hw' back kn sb
  refine lnr (lE ofp (lE ofp (lE (oli 1) (l_call rfl rfl rfl (cl0 (vs := [pp b2 0,Ix (hd.e),.int .i64 (16)]) tt82.ok rfl rfl) ?_))))
  intro w hw
  replace hw := hw.perm (L' := [wrR b2 (((((((((((([] ++ amL s.su 63) ++ bitsV (U s.last) 48) ++ bitsV (U ((s.ps.length : Nat) : Int)) 9) ++ psL (plO s)) ++ bitsV (U ((s.hs.length : Nat) : Int)) 9) ++ hsL (glO s)) ++ bitsV (U ((ms.length : Nat) : Int)) 9) ++ msL ((mlO X ms).take km)) ++ dealL hd.author hd.number mal) ++ bitsV (U ((hd.m : Nat) : Int)) 9) ++ nsL mhl) ++ bitsV (U hd.at_) 9),pt b22 (.cells #[Ix (hd.author),Ix (hd.number),.slice hd.p (hd.n) hd.c,.bool (hd.done),Ix (hd.at_),Ix (hd.e),.slice hd.q (hd.m) hd.k] 82),rowF IntF 3 p17 c18 (sortI (ms.map (·.1))),rowF IntF 3 p10 c11 (sortI (s.hs.map (·.1))),rowF IntF 3 p4 c5 (sortI (s.ps.map (·.1))),pt b1 (.cells #[.map (some mp),.map (some mh),Ix (s.last),Ix (s.su.a0),Ix (s.su.a1),Ix (s.su.a2),Ix (s.su.a3),.map (some mm)] 88),mpR PuM mp s.ps,mpR HoM mh s.hs,mpR MeM mm ms,memR zs]) (by exact (perm_ix [0,1,2,3,4,5,6,7,8,9] 10 rfl (by kernel_rfl) (by kernel_rfl)))
  obtain ⟨β1,sb,kn,hw1,back⟩ := St.frame (L := [_]) (M := _ :: _ :: _ :: _ :: _ :: _ :: _ :: _ :: _ :: []) hw
  refine (tputR_ok β1 w b2 (((((((((((([] ++ amL s.su 63) ++ bitsV (U s.last) 48) ++ bitsV (U ((s.ps.length : Nat) : Int)) 9) ++ psL (plO s)) ++ bitsV (U ((s.hs.length : Nat) : Int)) 9) ++ hsL (glO s)) ++ bitsV (U ((ms.length : Nat) : Int)) 9) ++ msL ((mlO X ms).take km)) ++ dealL hd.author hd.number mal) ++ bitsV (U ((hd.m : Nat) : Int)) 9) ++ nsL mhl) ++ bitsV (U hd.at_) 9) hw1 hd.e 16 hmf.e (by simp only [List.length_append,bitsV_len,amL_len,psL_len,hsL_len,nsL_len,dealL_len,List.length_take,List.length_nil]; omega)).mono ?_
  rintro e w' ⟨rfl,hw'⟩
  refine ⟨_,rfl,_,back _ _ hw',?_⟩
  clear hw hw1 hw' back kn sb
  refine l_nil (f_block (f_then (c_region (lv (v := Nx (km + 1)) (e_add rfl rfl (i64n (by omega) (by omega))) (lE omi (l_nil ?_))))))
  refine fpn [2,0,3,4,5,6,7,8,9,1] 10 ?_
  refine f_mask [true,true,true,true,true,true,true,true,true,false] rfl ?_
  exact f_cut ⟨km + 1,⟨⟨rfl,rfl,rfl,rfl,rfl⟩,by rw [hmt]; simp only [sB,rB,List.append_assoc,hml]; rfl,(by omega)⟩,(show (sortI (ms.map (·.1))).length - (km + 1) < (sortI (ms.map (·.1))).length - km from by omega)⟩
 refine c_exit (f_then_exit (f_then_exit (f_exit (fts ?_))))
 have hkme : km = (mlO X ms).length := by rw [mlO_len]; have := sortI_len (ms.map (·.1)); rw [List.length_map] at this; omega
 refine c_re (L' := [rowF IntF 3 p17 c18 (sortI (ms.map (·.1))),wrR b2 (((((((([] ++ amL s.su 63) ++ bitsV (U s.last) 48) ++ bitsV (U ((s.ps.length : Nat) : Int)) 9) ++ psL (plO s)) ++ bitsV (U ((s.hs.length : Nat) : Int)) 9) ++ hsL (glO s)) ++ bitsV (U ((ms.length : Nat) : Int)) 9) ++ msL (mlO X ms)),rowF IntF 3 p10 c11 (sortI (s.hs.map (·.1))),rowF IntF 3 p4 c5 (sortI (s.ps.map (·.1))),pt b1 (.cells #[.map (some mp),.map (some mh),Ix (s.last),Ix (s.su.a0),Ix (s.su.a1),Ix (s.su.a2),Ix (s.su.a3),.map (some mm)] 88),mpR PuM mp s.ps,mpR HoM mh s.hs,mpR MeM mm ms,memR zs]) (by rw [hkme,List.take_length]) ?_
 have hmall2 := hmall (mlO X ms).length
 rw [List.take_length] at hmall2
 have hlen : (stBits s.su s.last (plO s) (glO s) (mlO X ms)).length ≤ 346368 := stBits_len hsf.pn hsf.hn hmall2
 have hfin : (stBits s.su s.last (plO s) (glO s) (mlO X ms)).length ≤ 1048576 := Nat.le_trans hlen (by decide)
 refine c_re (L' := [rowF IntF 3 p17 c18 (sortI (ms.map (·.1))),wrR b2 (stBits s.su s.last (plO s) (glO s) (mlO X ms)),rowF IntF 3 p10 c11 (sortI (s.hs.map (·.1))),rowF IntF 3 p4 c5 (sortI (s.ps.map (·.1))),pt b1 (.cells #[.map (some mp),.map (some mh),Ix (s.last),Ix (s.su.a0),Ix (s.su.a1),Ix (s.su.a2),Ix (s.su.a3),.map (some mm)] 88),mpR PuM mp s.ps,mpR HoM mh s.hs,mpR MeM mm ms,memR zs]) (by unfold stBits; rw [plO_len,glO_len,mlO_len]; simp only [List.append_assoc,List.nil_append]) ?_
 refine c_region (lE ofp (l_call rfl rfl rfl (cl0 (vs := [pp b2 0]) tt87.ok rfl rfl) ?_))
 intro w hw
 replace hw := hw.perm (L' := _ :: _ :: _ :: _ :: _ :: _ :: _ :: _ :: _ :: []) (by exact (((((((((perm_front 8 rfl).trans (perm_front 8 rfl)).trans (perm_front 8 rfl)).trans (perm_front 8 rfl)).trans (perm_front 8 rfl)).trans (perm_front 8 rfl)).trans (perm_front 8 rfl)).trans (perm_front 7 rfl)).trans (perm_front 8 rfl)))
 obtain ⟨β1,sb,kn,hw1,back⟩ := St.frame (L := [_]) (M := _ :: _ :: _ :: _ :: _ :: _ :: _ :: _ :: []) hw
 refine (wbytesR_ok β1 w b2 (stBits s.su s.last (plO s) (glO s) (mlO X ms)) hw1 hfin).mono ?_
 rintro e w' ⟨p24,c25,bs26,hwr,rfl,hw'⟩
 refine ⟨_,rfl,_,back _ _ hw',?_⟩
 clear hw hw1 hw' back kn sb
 refine lE oas (lnf (c_ret (ret1 Tryz.results49 rfl ?_)))
 intro w hw
 replace hw := hw.perm (L' := [rB p24 bs26 c25,mpR PuM mp s.ps,mpR HoM mh s.hs,mpR MeM mm ms,memR zs,rowF IntF 3 p17 c18 (sortI (ms.map (·.1))),rowF IntF 3 p10 c11 (sortI (s.hs.map (·.1))),rowF IntF 3 p4 c5 (sortI (s.ps.map (·.1))),pt b1 (.cells #[.map (some mp),.map (some mh),Ix (s.last),Ix (s.su.a0),Ix (s.su.a1),Ix (s.su.a2),Ix (s.su.a3),.map (some mm)] 88)]) (by exact (perm_ix [0,5,6,7,8,1,2,3,4] 9 rfl (by kernel_rfl) (by kernel_rfl)))
 replace hw := st_mask (L' := [rB p24 bs26 c25,mpR PuM mp s.ps,mpR HoM mh s.hs,mpR MeM mm ms,memR zs]) [true,true,true,true,true,false,false,false,false] rfl hw
 exact ⟨_,_,bs26,hwr,hlen,rfl,hw⟩
end Go.Proofs
