/-
 Functions that fill a tape: walked. Printed by a program of my own.
-/
import Derived.Test.YtmhlglginimmnaaGreatDoorHvFill
set_option linter.all false
namespace Go.Proofs
open Go Go.Sl Go.Hv
instance uj0:CfC Tryz.prog 41:={}
instance uj1:TyC Tryz.prog 3 false 1:={}
instance uj2:CfC Tryz.prog 45:={}
instance uj3:FldC Tryz.prog 38 0 0 1 false:={}
instance uj4:FldC Tryz.prog 38 2 2 1 false:={}
instance uj5:FldC Tryz.prog 38 1 1 1 false:={}
theorem fput_ok(β:Base)(qe:Nat)(hd:KEh)(e:KEnt)(hz:EHd (hd,e))(hqe:Cs β.heap ⟨qe,0,none⟩ [Ix hd.id,.slice hd.p hd.n hd.c])(hr:Has (rowF CpF 100 hd.p hd.c e.comps) β.heap)(hR:Right e):FillV β (.func (.func 40) #[] #[pp qe 0]) (entB e):=by
 refine⟨40,[],[pp qe 0],rfl,by kernel_rfl,fun β₁ sb0 T p c bad xs hxl w hw=> ?_⟩
 replace hqe:=Cs.mono _ _ _ _ sb0 hqe
 replace hr:=Has.mono _ _ _ sb0 hr
 refine enter (n:=6) Tryz.func40 rfl Tryz.ntmps40 rfl ?_ hw
 refine c_region (lE omp (lv (v:= .func (.func 42) #[pp T 0] #[]) (e_func (u:=[pp T 0]) (v:=[]) rfl rfl) ?_))
 refine l_call rfl rfl rfl (cl0 (vs:=[.pointer (some (⟨qe,0,none⟩)),.func (.func 42) #[pp T 0] #[]]) uj0.ok rfl rfl) ?_
 intro w hw
 replace hw:=hw.perm (L':=_::_::[]) (by exact((perm_front 1 rfl).trans (perm_front 1 rfl)))
 obtain⟨β1,sb,kn,hw1,back⟩:=St.frame (L:=[_,_]) (M:=[]) hw
 refine(entW2_ok β1 w T p c bad xs hw1 ⟨qe,0,none⟩ (hd,e) hz (Cs.mono _ _ _ _ sb hqe) (Has.mono _ _ _ sb hr) hR (by omega)).mono ?_
 rintro e w' ⟨p1,c2,rfl,hw'⟩
 refine⟨_,rfl,_,back _ _ hw',?_⟩
 clear hw hw1 hw' back kn sb
 refine l_nil (end0 Tryz.results40 ?_)
 intro w hw
 exact⟨_,_,rfl,by rw[show xs++(entB e)=(xs++entB e) by first|rfl|(simp only[List.append_assoc]<;>rfl)];exact hw⟩
theorem fsave_ok(β:Base)(qe:Nat)(hd:KEh)(e:KEnt)(hz:EHd (hd,e))(hqe:Cs β.heap ⟨qe,0,none⟩ [Ix hd.id,.slice hd.p hd.n hd.c])(hr:Has (rowF CpF 100 hd.p hd.c e.comps) β.heap)(hR:Right e):FillV β (.func (.func 53) #[] #[pp qe 0]) (entB e):=by
 refine⟨53,[],[pp qe 0],rfl,by kernel_rfl,fun β₁ sb0 T p c bad xs hxl w hw=> ?_⟩
 replace hqe:=Cs.mono _ _ _ _ sb0 hqe
 replace hr:=Has.mono _ _ _ sb0 hr
 refine enter (n:=6) Tryz.func53 rfl Tryz.ntmps53 rfl ?_ hw
 refine c_region (lE omp (lv (v:= .func (.func 42) #[pp T 0] #[]) (e_func (u:=[pp T 0]) (v:=[]) rfl rfl) ?_))
 refine l_call rfl rfl rfl (cl0 (vs:=[.pointer (some (⟨qe,0,none⟩)),.func (.func 42) #[pp T 0] #[]]) uj0.ok rfl rfl) ?_
 intro w hw
 replace hw:=hw.perm (L':=_::_::[]) (by exact((perm_front 1 rfl).trans (perm_front 1 rfl)))
 obtain⟨β1,sb,kn,hw1,back⟩:=St.frame (L:=[_,_]) (M:=[]) hw
 refine(entW2_ok β1 w T p c bad xs hw1 ⟨qe,0,none⟩ (hd,e) hz (Cs.mono _ _ _ _ sb hqe) (Has.mono _ _ _ sb hr) hR (by omega)).mono ?_
 rintro e w' ⟨p1,c2,rfl,hw'⟩
 refine⟨_,rfl,_,back _ _ hw',?_⟩
 clear hw hw1 hw' back kn sb
 refine l_nil (end0 Tryz.results53 ?_)
 intro w hw
 exact⟨_,_,rfl,by rw[show xs++(entB e)=(xs++entB e) by first|rfl|(simp only[List.append_assoc]<;>rfl)];exact hw⟩
theorem fdrop_ok(β:Base)(qe:Nat)(id:Int)(hq:Cs β.heap ⟨qe,0,none⟩ [Ix id])(hi:inI id):FillV β (.func (.func 55) #[] #[pp qe 0]) (vint id):=by
 refine⟨55,[],[pp qe 0],rfl,by kernel_rfl,fun β₁ sb0 T p c bad xs hxl w hw=> ?_⟩
 replace hq:=Cs.mono _ _ _ _ sb0 hq
 refine enter (n:=6) Tryz.func55 rfl Tryz.ntmps55 rfl ?_ hw
 refine c_region (lE omp (lv (v:=Ix (id)) (e_load1 uj1.ok rfl (kB hq)) (l_call rfl rfl rfl (cl0 (vs:=[pp T 0,Ix (id)]) uj2.ok rfl rfl) ?_)))
 intro w hw
 replace hw:=hw.perm (L':=_::_::[]) (by exact((perm_front 1 rfl).trans (perm_front 1 rfl)))
 obtain⟨β1,sb,kn,hw1,back⟩:=St.frame (L:=[_,_]) (M:=[]) hw
 refine(tput_ok β1 w T p c bad xs hw1 (by omega) id hi).mono ?_
 rintro e w' ⟨p1,c2,rfl,hw'⟩
 refine⟨_,rfl,_,back _ _ hw',?_⟩
 clear hw hw1 hw' back kn sb
 refine l_nil (end0 Tryz.results55 ?_)
 intro w hw
 exact⟨_,_,rfl,by rw[show xs++(vint id)=(xs++vint id) by first|rfl|(simp only[List.append_assoc]<;>rfl)];exact hw⟩
theorem fgive_ok(β:Base)(qe q2:Nat)(id to:Int)(hq:Cs β.heap ⟨qe,0,none⟩ [Ix id])(hi:inI id)(hq2:Cs β.heap ⟨q2,0,none⟩ [Ix to])(hi2:inI to):FillV β (.func (.func 44) #[] #[pp qe 0,pp q2 0]) (vint id++vint to):=by
 refine⟨44,[],[pp qe 0,pp q2 0],rfl,by kernel_rfl,fun β₁ sb0 T p c bad xs hxl w hw=> ?_⟩
 replace hq:=Cs.mono _ _ _ _ sb0 hq
 replace hq2:=Cs.mono _ _ _ _ sb0 hq2
 refine enter (n:=10) Tryz.func44 rfl Tryz.ntmps44 rfl ?_ hw
 refine csr (lE omp (lv (v:=Ix (id)) (e_load1 uj1.ok rfl (kB hq)) (l_call rfl rfl rfl (cl0 (vs:=[pp T 0,Ix (id)]) uj2.ok rfl rfl) ?_)))
 intro w hw
 replace hw:=hw.perm (L':=_::_::[]) (by exact((perm_front 1 rfl).trans (perm_front 1 rfl)))
 obtain⟨β1,sb,kn,hw1,back⟩:=St.frame (L:=[_,_]) (M:=[]) hw
 refine(tput_ok β1 w T p c bad xs hw1 (by omega) id hi).mono ?_
 rintro e w' ⟨p1,c2,rfl,hw'⟩
 refine⟨_,rfl,_,back _ _ hw',?_⟩
 clear hw hw1 hw' back kn sb
 refine lnr (lE omp (lv (v:=Ix (to)) (e_load1 uj1.ok rfl (kB hq2)) (l_call rfl rfl rfl (cl0 (vs:=[pp T 0,Ix (to)]) uj2.ok rfl rfl) ?_)))
 intro w hw
 replace hw:=hw.perm (L':=_::_::[]) (by exact((perm_front 1 rfl).trans (perm_front 1 rfl)))
 obtain⟨β1,sb,kn,hw1,back⟩:=St.frame (L:=[_,_]) (M:=[]) hw
 refine(tput_ok β1 w T p1 c2 bad (xs++vint id) hw1 (by simp only[List.length_append];have hf:=vint_len10 hi;omega) to hi2).mono ?_
 rintro e w' ⟨p3,c4,rfl,hw'⟩
 refine⟨_,rfl,_,back _ _ hw',?_⟩
 clear hw hw1 hw' back kn sb
 refine l_nil (end0 Tryz.results44 ?_)
 intro w hw
 exact⟨_,_,rfl,by rw[show xs++(vint id++vint to)=((xs++vint id)++vint to) by first|rfl|(simp only[List.append_assoc]<;>rfl)];exact hw⟩
theorem fack_ok(β:Base)(qm:Nat)(m:KMg)(hqm:Cs β.heap ⟨qm,0,none⟩ (mgE m))(hi:inI m.src)(hi2:inI m.number):FillV β (.func (.func 48) #[] #[pp qm 0]) (vint m.src++vint m.number):=by
 refine⟨48,[],[pp qm 0],rfl,by kernel_rfl,fun β₁ sb0 T p c bad xs hxl w hw=> ?_⟩
 replace hqm:=Cs.mono _ _ _ _ sb0 hqm
 refine enter (n:=11) Tryz.func48 rfl Tryz.ntmps48 rfl ?_ hw
 refine csr (lE omp (lE ofa (lv (v:=Ix (m.src)) (e_load1 uj1.ok rfl (Knows.imp (kB hqm) (fun _ h=>Cs.sub (vs:=[Ix (m.src)]) 0 h rfl))) ?_)))
 refine l_call rfl rfl rfl (cl0 (vs:=[pp T 0,Ix (m.src)]) uj2.ok rfl rfl) ?_
 intro w hw
 replace hw:=hw.perm (L':=_::_::[]) (by exact((perm_front 1 rfl).trans (perm_front 1 rfl)))
 obtain⟨β1,sb,kn,hw1,back⟩:=St.frame (L:=[_,_]) (M:=[]) hw
 refine(tput_ok β1 w T p c bad xs hw1 (by omega) m.src hi).mono ?_
 rintro e w' ⟨p1,c2,rfl,hw'⟩
 refine⟨_,rfl,_,back _ _ hw',?_⟩
 clear hw hw1 hw' back kn sb
 refine lnr (lE omp (lE ofa (lv (v:=Ix (m.number)) (e_load1 uj1.ok rfl (Knows.imp (kB hqm) (fun _ h=>Cs.sub (vs:=[Ix (m.number)]) 2 h rfl))) ?_)))
 refine l_call rfl rfl rfl (cl0 (vs:=[pp T 0,Ix (m.number)]) uj2.ok rfl rfl) ?_
 intro w hw
 replace hw:=hw.perm (L':=_::_::[]) (by exact((perm_front 1 rfl).trans (perm_front 1 rfl)))
 obtain⟨β1,sb,kn,hw1,back⟩:=St.frame (L:=[_,_]) (M:=[]) hw
 refine(tput_ok β1 w T p1 c2 bad (xs++vint m.src) hw1 (by simp only[List.length_append];have hf:=vint_len10 hi;omega) m.number hi2).mono ?_
 rintro e w' ⟨p3,c4,rfl,hw'⟩
 refine⟨_,rfl,_,back _ _ hw',?_⟩
 clear hw hw1 hw' back kn sb
 refine l_nil (end0 Tryz.results48 ?_)
 intro w hw
 exact⟨_,_,rfl,by rw[show xs++(vint m.src++vint m.number)=((xs++vint m.src)++vint m.number) by first|rfl|(simp only[List.append_assoc]<;>rfl)];exact hw⟩
theorem ftake_ok(β:Base)(qm:Nat)(m:KMg)(hqm:Cs β.heap ⟨qm,0,none⟩ (mgE m))(hi:inI m.src)(qe:Nat)(hd:KEh)(e:KEnt)(hz:EHd (hd,e))(hqe:Cs β.heap ⟨qe,0,none⟩ [Ix hd.id,.slice hd.p hd.n hd.c])(hr:Has (rowF CpF 100 hd.p hd.c e.comps) β.heap)(hR:Right e):FillV β (.func (.func 49) #[] #[pp qm 0,pp qe 0]) (vint m.src++entB e):=by
 refine⟨49,[],[pp qm 0,pp qe 0],rfl,by kernel_rfl,fun β₁ sb0 T p c bad xs hxl w hw=> ?_⟩
 replace hqm:=Cs.mono _ _ _ _ sb0 hqm
 have hsi:=hi
 replace hqe:=Cs.mono _ _ _ _ sb0 hqe
 replace hr:=Has.mono _ _ _ sb0 hr
 refine enter (n:=11) Tryz.func49 rfl Tryz.ntmps49 rfl ?_ hw
 refine csr (lE omp (lE ofa (lv (v:=Ix (m.src)) (e_load1 uj1.ok rfl (Knows.imp (kB hqm) (fun _ h=>Cs.sub (vs:=[Ix (m.src)]) 0 h rfl))) ?_)))
 refine l_call rfl rfl rfl (cl0 (vs:=[pp T 0,Ix (m.src)]) uj2.ok rfl rfl) ?_
 intro w hw
 replace hw:=hw.perm (L':=_::_::[]) (by exact((perm_front 1 rfl).trans (perm_front 1 rfl)))
 obtain⟨β1,sb,kn,hw1,back⟩:=St.frame (L:=[_,_]) (M:=[]) hw
 refine(tput_ok β1 w T p c bad xs hw1 (by omega) m.src hi).mono ?_
 rintro e w' ⟨p1,c2,rfl,hw'⟩
 refine⟨_,rfl,_,back _ _ hw',?_⟩
 clear hw hw1 hw' back kn sb
 refine lnr (lE omp (lv (v:= .func (.func 42) #[pp T 0] #[]) (e_func (u:=[pp T 0]) (v:=[]) rfl rfl) ?_))
 refine l_call rfl rfl rfl (cl0 (vs:=[.pointer (some (⟨qe,0,none⟩)),.func (.func 42) #[pp T 0] #[]]) uj0.ok rfl rfl) ?_
 intro w hw
 replace hw:=hw.perm (L':=_::_::[]) (by exact((perm_front 1 rfl).trans (perm_front 1 rfl)))
 obtain⟨β1,sb,kn,hw1,back⟩:=St.frame (L:=[_,_]) (M:=[]) hw
 refine(entW2_ok β1 w T p1 c2 bad (xs++vint m.src) hw1 ⟨qe,0,none⟩ (hd,e) hz (Cs.mono _ _ _ _ sb hqe) (Has.mono _ _ _ sb hr) hR (by simp only[List.length_append];have hf:=vint_len10 hsi;omega)).mono ?_
 rintro e w' ⟨p3,c4,rfl,hw'⟩
 refine⟨_,rfl,_,back _ _ hw',?_⟩
 clear hw hw1 hw' back kn sb
 refine l_nil (end0 Tryz.results49 ?_)
 intro w hw
 exact⟨_,_,rfl,by rw[show xs++(vint m.src++entB e)=((xs++vint m.src)++entB e) by first|rfl|(simp only[List.append_assoc]<;>rfl)];exact hw⟩
theorem upto_fn(β:Base)(qm:Nat)(m:KMg)(hqm:Cs β.heap ⟨qm,0,none⟩ (mgE m)):FnV Tryz.prog β (.func (.func 47) #[] #[pp qm 0]) (fun z:KMg=>[.agg #[Ix (z.src),Ix (z.to),Ix (z.number),.bool (z.ack),Ix (z.id),.slice z.p (z.n) z.c]]) (fun _=>True) (fun z=> .bool (ackK m.src m.number z)):=by
 refine⟨47,[],[pp qm 0],rfl,by kernel_rfl,fun β₁ sb0 z_ hz_ w hw=> ?_⟩
 obtain⟨x,hx⟩:∃x,x=z_:=⟨_,rfl⟩
 subst hx
 replace hqm:=Cs.mono _ _ _ _ sb0 hqm
 refine enter (n:=16) Tryz.func47 rfl Tryz.ntmps47 rfl ?_ hw
 refine csr (bxa fun b1=> ?_)
 refine lE oab (lnc (lE ofp (lE (oli 0) (lE ofa ?_))))
 refine lv (v:=Ix (m.src)) (e_load1 uj1.ok rfl (Knows.imp (kB hqm) (fun _ h=>Cs.sub (vs:=[Ix (m.src)]) 0 h rfl))) (lE oeq_ ?_)
 refine l_and5 (decide ((x.to)=(m.src))) (decide ((x.number)≤(m.number))) rfl (fun hb2 hk2=> ?_) (fun z3 z4 z5 z6 z7=> ?_)
 ·have hb2p:=of_decide_eq_true hb2
  refine gE ofp (gE (oli 0) (gE ofa ?_))
  refine g_val (v:=Ix (m.number)) rfl rfl rfl rfl rfl (e_load1 uj1.ok rfl (Knows.imp (kB hqm) (fun _ h=>Cs.sub (vs:=[Ix (m.number)]) 2 h rfl))) ?_
  refine gE ole (lE oktb ?_)
  exact hk2 _ _ _ _ _
 refine lE oab (lnf (c_ret (ret1 Tryz.results47 rfl ?_)))
 intro w hw
 exact⟨congrArg (fun b:Bool=>Ending.returned (.bool b)) (show((decide ((x.to)=(m.src)))&&(decide ((x.number)≤(m.number))))=ackK m.src m.number x by unfold ackK;simp_all),st_mask [false] rfl hw⟩
end Go.Proofs
