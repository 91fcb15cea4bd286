/-
  Proved: HandoverOnce returns true at every input, and its input reads as it did; the package variable that it reads is tied to the program's text. No condition.
-/
import Derived.Test.YtmhlglginimmnaaGreatDoorRows
import Derived.Test.YtmhlglginimmnaaGreatDoorCards
import Derived.Test.YtmhlglginimmnaaGreatDoorTie
import Derived.Test.YtmhlglginimmnaaGreatDoorHv38
import Derived.WalkKit
import Derived.ProofKit
import Derived.OpenShut
import Derived.ChangeOld
import Derived.Below
import Derived.SizedLaws
import Derived.LaidMore
import Derived.Stop.Joined
import Derived.SevenTiedAt
set_option linter.all false
namespace Go.Proofs.YtmhlglginimmnaaGreatDoor.handoverOnce
open Go.ChangeShapes Go.WideShapes Go.ChangeAt Go.RowKit
open Go.Sl Go.Hv
set_option linter.unusedVariables false
theorem own:ownKnob Tryz.prog.godebug=none:=by kernel_rfl
theorem laidOut:laidOutB Tryz.prog=true:=by kernel_rfl
abbrev laid:List (String×DataW Unit):=[("marches/store.ranges",Rows.laid_marches_store_ranges)]
set_option maxRecDepth 100000 in
theorem lifted(os:Os)(started:os.Started)(H:Type)(enc:TypeId×Value→H):
  ReturnsInHanded {} Tryz.checked os 6 .any (fun w args=>(Rows.handoverOnceSpec.pre enc Tryz.prog Tryz.f6 [] false w args∧laidMetH Tryz.prog laid w)∧sizedMet enc Tryz.prog Tryz.f6 (OpenSpec.ofChange Rows.handoverOnceSpec) false w args)
   (Rows.handoverOnceSpec.post enc Tryz.prog Tryz.f6 false true false false):=by
 refine returnsInHanded_of_change_and (C:=Tryz.checked) (X:=fun w _=>laidMetH Tryz.prog laid w) (fun _ _ _ hh h=>h.of_heap hh) own started (by kernel_rfl) Tryz.func6
  (ChangeSpec.witness_shaped (enc:=enc) (C:=Tryz.checked) (os:=os) (X:=fun w _=>laidMetH Tryz.prog laid w) false (World.doorLaid Tryz.prog 600 os) #[.slice none 0 0,.agg #[.int .u16 0,.int .u16 0,.int .u16 0]] 8 rfl (World.shaped_of_RefB (by kernel_rfl) (by kernel_rfl)) (by kernel_rfl) (by kernel_rfl) (by kernel_rfl) (door_met os _)) ?_
 intro W base args ds gs before hval0 hW hcnd hsz hL _
 have hval:∀(j:Nat) t v,Tryz.f6.params[j]? =some t→args[j]? =some v→Value.okWide Tryz.prog W .any base t v:=hval0
 have hW':=hW
 obtain⟨p,q,hA0,hV,rfl,hfz,hnd⟩:=hW
 have hA:DataW.TrodAll enc Tryz.prog W 0 (fun _=>true) true Tryz.f6.params.toList args.toList ds p:=hA0
 rw[Tryz.params6]at hA hval hsz
 obtain⟨v0,vs0,d0,ds0,p0,q0,hargs,rfl,rfl,h0,r0⟩:=trodAll_cons hA
 obtain⟨v1,vs1,d1,ds1,p1,q1,rfl,rfl,rfl,h1,r1⟩:=trodAll_cons r0
 obtain⟨rfl,rfl,rfl⟩:=trodAll_nil r1
 obtain rfl:args= #[v0,v1]:=by cases args;simp_all
 obtain⟨rfl,rfl⟩:=trodVars_none hV
 have k0:=h0
 have lt0:∀x∈p0,x.block<W.heap.size:=by obtain⟨m,hm⟩:=k0;exact DataW.trod_lt m _ _ _ hm
 obtain⟨ya0,yl0,yc0,rfl⟩:=okWide_slice Tryz.underlying50 (hval 0 50 v0 rfl rfl)
 obtain⟨z0,hz0⟩:=open_steps h0
 have k1:=h1
 have lt1:∀x∈p1,x.block<W.heap.size:=by obtain⟨m,hm⟩:=k1;exact DataW.trod_lt m _ _ _ hm
 obtain⟨q0,q1,q2,rfl,hq0,hq1,hq2⟩:=open_pows h1
 have hG:=of_laid hL
 clear hA0 hval0
 have hcall:Calls Tryz.prog 6 #[.slice ya0 yl0 yc0,.agg #[.int .u16 ((q0:Nat):Int),.int .u16 ((q1:Nat):Int),.int .u16 ((q2:Nat):Int)]] W fun e W'=>e= .returned (.bool true)∧Below W.heap.size W W':=by
  have h:=once_ok (World.base W) W (St.base W) hG _ _ hz0 q0 q1 q2 hq0 hq1 hq2
  exact h.mono fun e w' ⟨h1,h2⟩=>⟨h1,h2.below⟩
 refine hcall.mono fun e W' ⟨he,bel⟩=> ?_
 subst he
 exact⟨_,rfl,_,_,_,[],_,[],hW',trodAll_mk1 (shut_bool Tryz.underlying4 _),(trodAll_cons_mk (Below.trod laidOut (by kernel_rfl) (of_decide_eq_true (by kernel_rfl)) k0 bel lt0) (trodAll_cons_mk (Below.trod laidOut (by kernel_rfl) (of_decide_eq_true (by kernel_rfl)) k1 bel lt1) trodAll_mk0)),rfl,bel.frame _,fun h=>by cases h⟩
theorem over_:Rows.HandoverOnceSaid:=
 OpenClaim.holds_of_wide 6 Tryz.f6 rfl rfl rfl rfl rfl rfl rfl ⟨rfl,rfl,rfl,rfl,rfl⟩ rfl rfl rfl rfl rfl (by kernel_rfl) Tryz.func6 (by kernel_rfl)
  (of_decide_eq_true (by kernel_rfl)) (by unfold Func.isWrapper;first|(rw[if_pos (by decide+kernel)];kernel_rfl)|(rw[if_neg (by decide+kernel)];exact⟨rfl,rfl⟩))
  (fun os started H enc _=>lifted os started H enc)
theorem proved:Rows.HandoverOnceCardSaid:=
 Claim7.holds_tied_plain_at .later [] [.data] true (true,"a95b29eb92862aba7274b3b5e8fd660cb65288b5b4fb99be0158ff9633b046e4") true
  over_ (fun _ h=>by cases h) (by kernel_rfl) (fun _ h=>by cases h) handoverOnce_row_tie rfl ⟨rfl,rfl⟩ (by kernel_rfl) rfl
  (fun f fn hf hfn=>by
   obtain rfl:f=6:=Option.some.inj ((show Tryz.prog.funcNamed "marches/marcheslaw32.HandoverOnce"=some 6 by kernel_rfl).symm.trans hf)|>.symm
   obtain rfl:fn=Tryz.f6:=(Option.some.inj (Tryz.func6.symm.trans hfn)).symm
   exact⟨by kernel_rfl,fun j t ht=>by
    rw[Tryz.params6]at ht
    have hm:t∈([50,52]:List Nat):=by simpa using Array.mem_of_getElem? ht
    have hall:(([50,52]:List Nat).all fun u=> !Tryz.prog.wantsStandIn u)=true:=by kernel_rfl
    exact(show Tryz.prog.wantsStandIn t=false by simpa using List.all_eq_true.1 hall t hm)⟩)
  (by kernel_rfl)
end Go.Proofs.YtmhlglginimmnaaGreatDoor.handoverOnce
namespace Go.Proofs.YtmhlglginimmnaaGreatDoor
theorem handoverOnce_proved:Rows.HandoverOnceCardSaid:=handoverOnce.proved
#print axioms handoverOnce_proved
end Go.Proofs.YtmhlglginimmnaaGreatDoor
