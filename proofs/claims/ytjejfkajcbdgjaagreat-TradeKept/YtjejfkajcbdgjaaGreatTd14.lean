/-
 Open,opened: walked. Printed by a program of my own.
-/
import Derived.Test.YtjejfkajcbdgjaaGreatTd13
import Derived.Test.YtjejfkajcbdgjaaGreatTdHouE
import Derived.Test.YtjejfkajcbdgjaaGreatSlA
import Derived.Test.YtjejfkajcbdgjaaGreatSlN
namespace Go.Proofs
open Go Go.Sl Go.Td Go.Jn
theorem tt151 : Tryz.prog.underlying 26 = some (.pointer (Tryz.prog.pointee 26)) := by kernel_rfl
instance tt152 : TyC Tryz.prog 29 true 4 := ⟨by kernel_rfl⟩
instance tt153 : CfC Tryz.prog 45 := ⟨by kernel_rfl⟩
instance tt154 : ZerC Tryz.prog 109 (.agg #[.int .i64 (0), .int .i64 (0), .slice none 0 0, .slice none 0 0, .int .i64 (0)]) := ⟨by kernel_rfl⟩
instance tt155 : TyC Tryz.prog 109 true 5 := ⟨by kernel_rfl⟩
instance tt156 : FldC Tryz.prog 109 2 2 1 false := ⟨by kernel_rfl⟩
instance tt157 : FldC Tryz.prog 109 3 3 1 false := ⟨by kernel_rfl⟩
instance tt158 : TyC Tryz.prog 107 false 1 := ⟨by kernel_rfl⟩
instance tt159 : CfC Tryz.prog 46 := ⟨by kernel_rfl⟩
instance tt160 : CfC Tryz.prog 47 := ⟨by kernel_rfl⟩
theorem tt161 : stB Tryz.prog 91 [(0, 1), (1, 8), (9, 1)] = true := by kernel_rfl
instance tt162 : ZerC Tryz.prog 91 (.agg #[.pointer none, .map none, .map none, .int .i64 (0), .int .i64 (0), .int .i64 (0), .int .i64 (0), .int .i64 (0), .map none, .bool false]) := ⟨by kernel_rfl⟩
instance tt163 : FldC Tryz.prog 29 3 3 1 false := ⟨by kernel_rfl⟩
instance tt164 : CfC Tryz.prog 21 := ⟨by kernel_rfl⟩
set_option maxHeartbeats 4000000 in
theorem openh_ok (β : Base) (w : World) (S N W : Nat) (X : KHs) (hw : St β [shelfR S X N W (-1)] w) (hN : N ≤ 1000000) : Calls Tryz.prog 21 #[pp S 0] w fun r w' => ∃ H, r = .returned (.tuple #[pp H 0, .int .i64 0]) ∧ St β [houseR H S X N W (-1)] w' := by
 obtain ⟨i,k,hso,hpw,hw⟩ := St.openShelf hw
 have hok := hso.inv.okP hN
 have hri := hso.inv.read
 have hcut : cutOk (k.area i.epoch) k.power i.size := .inr (by rw [hpw]; decide)
 obtain ⟨X0,ds,hi⟩ := hso.img
 obtain ⟨hl0,hl1⟩ := hso.lasts hN hi
 have hbl : i.state.length ≤ 65536 := hso.inv.wf.state
 have hrl : i.recs.length ≤ 1048576 := Nat.le_trans hso.inv.wf.next (Nat.le_trans hso.inv.nN (Nat.le_trans hN (by decide)))
 refine enter (n := 43) Tryz.func21 rfl Tryz.ntmps21 rfl ?_ hw
 refine csr (lE oap (lE oai (lnf (cs2 (c_region (lE omp (lv (v := .bool false) (e_eql_pnil (p := some (⟨S,0,none⟩)) rfl rfl tt151) (lnf (c_no rfl ?_)))))))))
 refine csk (c_seq (c_openStore rfl (fun pH1 pA2 pB3 cH4 cA5 cB6 => ?_)))
 refine c_region (lE omp (lE onp (lE (olg 0) ?_)))
 refine lcf (cl0 (vs := [.agg #[sB pH1 k.head cH4,sB pA2 k.a cA5,sB pB3 k.b cB6,Ix (k.power)]]) tt153.ok rfl rfl) rfl fun w β1 sb kn hw1 back => (readC_ok β1 w hw1 k _ _ _ (kU kn 1 rfl) (kU kn 2 rfl) (kU kn 3 rfl) hok i hri).mono ?_
 rintro e w' ⟨ps7,pr8,cs9,cr10,rfl,hw'⟩
 refine ⟨_,rfl,_,back _ _ hw',?_⟩
 clear hw1 hw' back kn sb
 refine lE omt (lE oxa (lE oxi (alE fun b11 => lu (mS 0 (#[Nx (i.epoch),Nx (i.next),sB ps7 i.state cs9,sB pr8 i.recs cr10,Nx (i.size)])) (lE oai ?_))))
 refine lnf (cs2 (c_region (lE omi (lE onq (lnf (c_no rfl (csk (csr (lE ofp (lE (ols 0) (lE ofp (lE (ols 0) ?_))))))))))))
 refine lcf (cl0 (vs := [sB ps7 i.state cs9,sB pr8 i.recs cr10]) tt159.ok rfl rfl) rfl fun w β1 sb kn hw1 back => (restore_ok β1 w hw1 _ _ i.state (kU kn 1 rfl) hbl i.recs (kn _ (Knows.of_res 2 rfl (Sl.mono BsR _ _) fun _ h => recs_sl h)) hrl X X0 ds hi.st hi.x0 hi.recs hi.ok hi.x hl0 hl1).mono ?_
 rintro e w' ⟨mp12,mh13,mm14,s15,ms16,zs17,he18,hm19,rfl,hw'⟩
 refine ⟨_,rfl,_,back _ _ hw',?_⟩
 clear hw1 hw' back kn sb
 refine lE omt (lE oxa (lE oxb (alE fun b20 => ?_)))
 refine lu (mS 0 (#[.map (some mp12),.map (some mh13),Ix (s15.last),Ix (s15.su.a0),Ix (s15.su.a1),Ix (s15.su.a2),Ix (s15.su.a3),.map (some mm14)])) ?_
 refine lE oab (lnf (cs2 (c_region (lE omb (lE ont (lnf (c_no rfl (csk (c_seq (c_pi [8,9,10,11,0,1,2,3,4,5,6,7] 12 rfl (by kernel_rfl) ?_))))))))))
 refine c_closeStore (S := S) (k := k) (pH := pH1) (pA := pA2) (pB := pB3) (cH := cH4) (cA := cA5) (cB := cB6) (M := [pt b20 (.cells #[.map (some mp12),.map (some mh13),Ix (s15.last),Ix (s15.su.a0),Ix (s15.su.a1),Ix (s15.su.a2),Ix (s15.su.a3),.map (some mm14)] 88),mpR PuM mp12 s15.ps,mpR HoM mh13 s15.hs,mpR MeM mm14 ms16,memR zs17,pt b11 (.cells #[Nx (i.epoch),Nx (i.next),sB ps7 i.state cs9,sB pr8 i.recs cr10,Nx (i.size)] 109),rB ps7 i.state cs9,recsR 27 pr8 cr10 i.recs]) rfl ?_
 refine c_region (lE omp (l_call rfl rfl rfl (cl0 (vs := [pp S 0]) tt160.ok rfl rfl) ?_))
 intro w hw
 replace hw := hw.perm (L' := _ :: _ :: _ :: _ :: _ :: _ :: _ :: _ :: _ :: []) (by exact (((((((((perm_front 8 rfl).trans (perm_front 8 rfl)).trans (perm_front 8 rfl)).trans (perm_front 8 rfl)).trans (perm_front 8 rfl)).trans (perm_front 8 rfl)).trans (perm_front 8 rfl)).trans (perm_front 8 rfl)).trans (perm_front 8 rfl)))
 obtain ⟨β1,sb,kn,hw1,back⟩ := St.frame (L := [_]) (M := _ :: _ :: _ :: _ :: _ :: _ :: _ :: _ :: []) hw
 refine (open_ok β1 w S k hok (by omega) i hri hcut hw1).mono ?_
 rintro e w' ⟨J21,rfl,hw'⟩
 refine ⟨_,rfl,_,back _ _ hw',?_⟩
 clear hw hw1 hw' back kn sb
 refine lE omt (lE oxp (lE oxi (lE oap (lE oai (lnf (cs2 (c_region (lE omi (lE onq (lnf (c_no rfl (csk (csr (lE omp (lE (olg 2) ?_)))))))))))))))
 refine lv (v := .agg #[pp J21 0,.map (some mp12),.map (some mh13),Ix (s15.last),Ix (s15.su.a0),Ix (s15.su.a1),Ix (s15.su.a2),Ix (s15.su.a3),.map (some mm14),.bool false]) (e_build tt162.ok tt161 (vs := [(0,pp J21 0),(1,.agg #[.map (some mp12),.map (some mh13),Ix (s15.last),Ix (s15.su.a0),Ix (s15.su.a1),Ix (s15.su.a2),Ix (s15.su.a3),.map (some mm14)])]) (cells := #[pp J21 0,.map (some mp12),.map (some mh13),Ix (s15.last),Ix (s15.su.a0),Ix (s15.su.a1),Ix (s15.su.a2),Ix (s15.su.a3),.map (some mm14),.bool false]) rfl (by kernel_rfl)) ?_
 refine bxa fun b22 => ?_
 refine lE oap (lE oai (lnf (c_ret (ret2 (v := pp b22 0) (v' := .int .i64 (0)) Tryz.results21 rfl rfl ?_))))
 intro w hw
 replace hw := hw.perm (L' := [pt b22 (.cells #[pp J21 0,.map (some mp12),.map (some mh13),Ix (s15.last),Ix (s15.su.a0),Ix (s15.su.a1),Ix (s15.su.a2),Ix (s15.su.a3),.map (some mm14),.bool false] 91),jourR J21 S i false,storeR S (cutS k i.epoch i.size),mpR PuM mp12 s15.ps,mpR HoM mh13 s15.hs,mpR MeM mm14 ms16,memR zs17,pt b20 (.cells #[.map (some mp12),.map (some mh13),Ix (s15.last),Ix (s15.su.a0),Ix (s15.su.a1),Ix (s15.su.a2),Ix (s15.su.a3),.map (some mm14)] 88),pt b11 (.cells #[Nx (i.epoch),Nx (i.next),sB ps7 i.state cs9,sB pr8 i.recs cr10,Nx (i.size)] 109),rB ps7 i.state cs9,recsR 27 pr8 cr10 i.recs]) (by exact (perm_ix [0,1,2,4,5,6,7,3,8,9,10] 11 rfl (by kernel_rfl) (by kernel_rfl)))
 replace hw := st_mask (L' := [pt b22 (.cells #[pp J21 0,.map (some mp12),.map (some mh13),Ix (s15.last),Ix (s15.su.a0),Ix (s15.su.a1),Ix (s15.su.a2),Ix (s15.su.a3),.map (some mm14),.bool false] 91),jourR J21 S i false,storeR S (cutS k i.epoch i.size),mpR PuM mp12 s15.ps,mpR HoM mh13 s15.hs,mpR MeM mm14 ms16,memR zs17]) [true,true,true,true,true,true,true,false,false,false,false] rfl hw
 exact ⟨_,rfl,St.closeHouse (M := []) ⟨he18,hso.cut hpw,hm19⟩ (cut_neg1 hpw) hw⟩
theorem opened_ok (β : Base) (w : World) (S N W : Nat) (X : KHs) (pw : Int) (hw : St β [shelfR S X N W pw] w) (hN : N ≤ 1000000) : Calls Tryz.prog 10 #[pp S 0] w fun r w' => ∃ H, r = .returned (.tuple #[pp H 0, .bool true]) ∧ St β [houseR H S X N W (-1)] w' := by
 refine enter (n := 21) Tryz.func10 rfl Tryz.ntmps10 rfl ?_ hw
 refine csr (lE oap (lE oab (lnf (c_seq (c_openShelf rfl (fun i k hso hpw => ?_))))))
 refine c_openStore rfl (fun pH1 pA2 pB3 cH4 cA5 cB6 => ?_)
 refine c_region (lE omp (lE onp (lE ofp (lu (mS 0 (#[sB pH1 k.head cH4,sB pA2 k.a cA5,sB pB3 k.b cB6,.int .i64 (-1)])) (lnf (c_seq ?_))))))
 refine c_closeStore (S := S) (k := { k with power := -1 }) (pH := pH1) (pA := pA2) (pB := pB3) (cH := cH4) (cA := cA5) (cB := cB6) (M := []) rfl ?_
 refine c_closeShelf (p := -1) (M := []) rfl (hso.pow (by decide) (by decide)) rfl (c_region (lE omp ?_))
 refine l_call rfl rfl rfl (cl0 (vs := [pp S 0]) tt164.ok rfl rfl) ?_
 intro w hw
 replace hw := hw.perm (L' := _ :: []) (by exact (perm_front 0 rfl))
 obtain ⟨β1,sb,kn,hw1,back⟩ := St.frame (L := [_]) (M := []) hw
 refine (openh_ok β1 w S N W X hw1 hN).mono ?_
 rintro e w' ⟨H7,rfl,hw'⟩
 refine ⟨_,rfl,_,back _ _ hw',?_⟩
 clear hw hw1 hw' back kn sb
 refine lE omt (lE oxp (lE oxi (lE oap (lE oai (lnc (lE omp (lE omi (lE oeq_ (lE omb (gE omp ?_))))))))))
 refine g_val (v := .bool true) rfl rfl rfl rfl rfl (e_neq_pnil (p := some (⟨H7,0,none⟩)) rfl rfl tt89) (lE oktb (lE oap (lE oab (lnf (c_ret ?_)))))
 refine ret2 (v := pp H7 0) (v' := .bool true) Tryz.results10 rfl rfl ?_
 intro w hw
 exact ⟨_,rfl,hw⟩
end Go.Proofs
