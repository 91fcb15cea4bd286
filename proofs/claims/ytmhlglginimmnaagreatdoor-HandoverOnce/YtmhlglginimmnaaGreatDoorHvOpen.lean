/-
  What is played when a gate is opened. Own work; plain Lean.
-/
import Derived.Test.YtmhlglginimmnaaGreatDoorHv21
import Derived.Test.YtmhlglginimmnaaGreatDoorJn7
set_option linter.all false
namespace Go.Hv
open Go Go.Sl Go.Proofs Go.Jn
def StepRec(X:KG)(bs:List UInt8)(Y:KG):Prop:=(bs=[]∧Y=X)∨∃o,bs=opB o∧OpIn X o∧XOk X 54000000∧Y=playX X o
def openX(z:Int)(X0:KG)(ops:List Hv.KOp)(k:Nat):KG:=if k=0 then freshG z else replayG X0 (ops.take (k-1))
theorem Img.step{i:KI}{X X0:KG}{ops:List Hv.KOp}{N:Nat}(h:Img i X X0 ops N)(hX:XOk X N)(hN:N≤54000000){k:Nat}{bs:List UInt8}(hk:(i.state::i.recs)[k]? =some bs):StepRec (openX X.zone X0 ops k) bs (openX X.zone X0 ops (k+1))∧(openX X.zone X0 ops k).zone=X.zone:=by
 cases k with
 |zero=>
  rw[List.getElem?_cons_zero]at hk;injection hk with hk;subst hk
  refine⟨?_,rfl⟩
  show StepRec (freshG X.zone) i.state X0
  rcases h.st with⟨h1,h2⟩|h1
  ·exact .inl ⟨h1,h2⟩
  ·refine .inr ⟨.all X0,h1,⟨by rw[h.x0.2],_,h.x0.1,by omega⟩,freshG_ok hX.zone (by decide),rfl⟩
 |succ k=>
  rw[List.getElem?_cons_succ,h.recs]at hk
  obtain⟨o,ho,rfl⟩:=map_get hk
  obtain⟨h1,h2,h3⟩:=h.ok k o ho
  exact⟨.inr ⟨o,rfl,h1,h2.mono (by omega),replayG_take ho⟩,h3⟩
theorem Img.last{i:KI}{X X0:KG}{ops:List Hv.KOp}{N:Nat}(h:Img i X X0 ops N):openX X.zone X0 ops (i.state::i.recs).length=X:=by
 unfold openX
 rw[if_neg (by simp),List.length_cons,Nat.add_sub_cancel,h.recs,List.length_map,List.take_length]
 exact h.x.symm
def openG(e:Int)(p:Option Addr)(S:Nat)(X:KG)(N:Nat)(m:Bool):Res:=fun h=>(e=0∧∃G,p=some ⟨G,0,none⟩∧gateR G S X N m h)∨(e=310∧p=none∧m=false∧shelfR S X N m h)
section
variable {β:Base}{G S N N1 N2:Nat}{X X1:KG}{m:Bool}{M:List Res}{w:World}
theorem St.openIf{e:Int}{p:Option Addr}(h:St β (openG e p S X N m::M) w):(e=0∧∃G,p=some ⟨G,0,none⟩∧St β (gateR G S X N m::M) w)∨(e=310∧p=none∧m=false∧St β (shelfR S X N m::M) w):=by
 obtain⟨ho,ht,hp,a,hd,hs,hs',q,r,h1,h2,h3,(⟨e0,G,e1,hx⟩|⟨e1,e2,hm,hx⟩),h5⟩:=h
 ·exact .inl ⟨e0,G,e1,ho,ht,hp,a,hd,hs,hs',q,r,h1,h2,h3,hx,h5⟩
 ·exact .inr ⟨e1,e2,hm,ho,ht,hp,a,hd,hs,hs',q,r,h1,h2,h3,hx,h5⟩
end
theorem fresh_close(z:Int):GOk (freshG z) [] [] []:=⟨.refl _,fun e h=>(by cases h),fun a _=>rfl,fun z h=>(by cases h),rfl,fun z h=>(by cases h)⟩
theorem pool_nil(a:PHeap):poolR [] a:=fun z h=>(by cases h)
end Go.Hv
namespace Go.Proofs
open Go Go.Sl Go.Hv
theorem playS_ok(β:Base)(w:World)(X Y:KG)(z:Int)(hz:X.zone=z)(dn:Bool)(G J:Nat)(bs:List UInt8)(v:Value)(hs:Sl BytF.R β.heap v bs)(h:StepRec X bs Y)(hw:St β [gvR G J X dn] w):Calls Tryz.prog 34 #[.pointer (some ⟨G,2,none⟩),Ix z,v] w fun r w'=>r= .returned (.tuple #[])∧St β [gvR G J Y dn] w':=by
 obtain⟨va,vc,rfl,h1,h2,h3⟩:=hs.get
 rcases h with⟨rfl,rfl⟩|⟨o,rfl,ho,hX,rfl⟩
 ·exact play0_ok β w _ dn G J z va vc hw
 ·subst hz
  exact play_ok β w X _ hX (by decide) dn G J o ho β.heap (fun _ _ h=>h) va vc hs hw
end Go.Proofs
namespace Go.Hv
open Go Go.Sl Go.Proofs Go.Jn
theorem cut_same{k:KS}{e n:Nat}(hl:(k.area e).length≤n)(hp:k.power=0):cutS k e n=k:=by
 unfold cutS cutA cutP
 rw[if_pos hp,if_neg (by omega)]
 unfold KS.setArea KS.area
 split<;>rfl
theorem SOk.cut2{X:KG}{i:KI}{k:KS}{N:Nat}{x:Bool}(h:SOk X i k N x)(hc:cutOk (k.area i.epoch) k.power i.size):SOk X i (cutS k i.epoch i.size) N true:=by
 by_cases hp:k.power=0
 ·have hl:(k.area i.epoch).length≤i.size:=hc.elim id fun q=>absurd hp q
  rw[cut_same hl hp]
  obtain⟨t,a,b,c⟩:=h.inv.area
  have ht:t=[]:=List.eq_nil_of_length_eq_zero (by rw[a,List.length_append]at hl;have:=h.inv.wf.size;omega)
  exact⟨⟨h.inv.head,⟨t,a,b,fun _=>ht⟩,h.inv.wf,h.inv.eN,h.inv.nN,h.inv.sz,h.inv.sm,h.inv.la,h.inv.lb,h.inv.st,h.inv.rs,h.inv.pw⟩,h.ep,h.img,h.ok⟩
 ·exact h.cut hp
end Go.Hv
