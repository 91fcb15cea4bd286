/-
 Proved: BroadSmall returns true at every input, and its input reads as it did. No condition.
-/
import Derived.Test.YtmgpmgckbcjalaaGreatRows
import Derived.Test.YtmgpmgckbcjalaaGreatBr23
import Derived.Test.YtmgpmgckbcjalaaGreatBrOpen
import Derived.WalkKit
import Derived.ProofKit
import Derived.OpenShut
import Derived.ShutString
import Derived.ChangeOld
import Derived.Below
import Derived.SizedLaws
namespace Go.Proofs.YtmgpmgckbcjalaaGreat.broadSmall
open Go.ChangeShapes Go.WideShapes Go.ChangeAt Go.RowKit
open Go.Sl Go.Brd
set_option linter.unusedVariables false
theorem own:ownKnob Tryz.prog.godebug=none:=by kernel_rfl
theorem laidOut:laidOutB Tryz.prog=true:=by kernel_rfl
set_option maxRecDepth 100000 in
theorem lifted(os:Os)(started:os.Started)(H:Type)(enc:TypeId×Value→H):
  ReturnsInHanded {} Tryz.checked os 5 .any (Rows.broadSmallSpec.pre6 enc Tryz.prog Tryz.f5 Rows.broadSmallRow.domain false) (Rows.broadSmallSpec.post enc Tryz.prog Tryz.f5 false true false false):=by
 refine returnsInHanded_of_change_sized (C:=Tryz.checked) own started (by kernel_rfl) Tryz.func5
  (ChangeSpec.witness6 (enc:=enc) (C:=Tryz.checked) false ⟨#[],#[],[]⟩ 8 (by kernel_rfl) (by kernel_rfl) (by kernel_rfl) (by kernel_rfl)) ?_
 intro W base args ds gs before hval0 hW hcnd hsz _
 have hval:∀(j:Nat) t v,Tryz.f5.params[j]? =some t→args[j]? =some v→Value.okWide Tryz.prog W .any base t v:=hval0
 have hW':=hW
 obtain⟨p,q,hA0,hV,rfl,hfz,hnd⟩:=hW
 have hA:DataW.TrodAll enc Tryz.prog W 0 (fun _=>true) true Tryz.f5.params.toList args.toList ds p:=hA0
 rw[Tryz.params5]at hA hval hsz
 obtain⟨hargs,rfl,rfl⟩:=trodAll_nil hA
 obtain rfl:args= #[]:=by cases args;simp_all
 obtain⟨rfl,rfl⟩:=trodVars_none hV
 clear hA0 hval0
 simp only[List.append_nil]at hW'
 have hcall:Calls Tryz.prog 5 #[] W fun e W'=>e= .returned (.bool true)∧Below W.heap.size W W':=by
  have h:=smallL_ok (World.base W) W (St.base W)
  exact h.mono fun e w' ⟨h1,h2⟩=>⟨h1,h2.below⟩
 refine hcall.mono fun e W' ⟨he,bel⟩=> ?_
 subst he
 exact⟨_,rfl,_,_,_,[],_,[],hW',trodAll_mk1 (shut_bool Tryz.underlying4 _),trodAll_mk0,rfl,bel.frame _,fun h=>by cases h⟩
theorem over:Rows.broadSmallRow.holds Tryz.pinned (OpenSpec.ofChange Rows.broadSmallSpec):=
 OpenClaim.holds_of_wide 5 Tryz.f5 rfl rfl rfl rfl rfl rfl rfl ⟨rfl,rfl,rfl,rfl,rfl⟩ rfl rfl rfl rfl rfl (by kernel_rfl) Tryz.func5 (by kernel_rfl)
  (of_decide_eq_true (by kernel_rfl)) (by unfold Func.isWrapper;first|(rw[if_pos (by decide+kernel)];kernel_rfl)|(rw[if_neg (by decide+kernel)];exact⟨rfl,rfl⟩))
  (fun os started H enc _=>lifted os started H enc)
theorem proved:Rows.BroadSmallSaid:=over
end Go.Proofs.YtmgpmgckbcjalaaGreat.broadSmall
namespace Go.Proofs.YtmgpmgckbcjalaaGreat
theorem broadSmall_proved:Rows.BroadSmallSaid:=broadSmall.proved
#print axioms broadSmall_proved
end Go.Proofs.YtmgpmgckbcjalaaGreat
