/-
  Own work; plain Lean (SlAnd, SlC, SlMap, SlA).
-/
import Derived.Test.YtmhlglginimmnaaGreatDoorHvDef
import Derived.MapKept
set_option linter.all false
namespace Go.Sl
section
variable {P:Program}{ro:Option Nat}{n:Nat}{ds:List Deferred}{β:Base}{Q:Exit→Act→World→Prop}{f:Fm}{L:List Res}{ops:Array Oper}{rest:List Oper}
theorem upd_self(f:Fm)(d:Nat)(v:Value):upd f d v d=v:=by unfold upd;simp
theorem upd_ne(f:Fm){d e:Nat}(v:Value)(h:Nat.beq e d=false):upd f d v e=f e:=by unfold upd;rw[h]
theorem l_or1{m p j d1:Nat}{x q:Operand}{o1:Oper}{t1 t2:TypeId}{s1 s2:String}{r1 r2:Array Edge}(b c:Bool)(hx:ev f x= .bool b)
 (h:b=false→(∀x1,RunL P ro n ds β ops Q rest (upd (upd (upd f m (.bool false)) d1 x1) p (.bool (c))) L)→RunL P ro n ds β ops Q (o1::⟨some p,.pick (.tmp m) (.const (.bool true)) q,t2,s2,r2,none⟩::rest) (upd f m (.bool false)) L)
 (k:∀x1,RunL P ro n ds β ops Q rest (upd (upd (upd f m (.bool b)) d1 x1) p (.bool (b||c))) L)(hm:Nat.blt m n=true:=by rfl)(hp:Nat.blt p n=true:=by rfl)(e1:o1.dst=some d1:=by rfl)(g1:o1.guard=some (j,false):=by rfl)(n1:Nat.blt d1 n=true:=by rfl)(a1:Nat.beq m d1=false:=by rfl)(hj:(ops[j]?).bind (·.dst)=some m:=by rfl):
  RunL P ro n ds β ops Q (⟨some m,.move x,t1,s1,r1,none⟩::o1::⟨some p,.pick (.tmp m) (.const (.bool true)) q,t2,s2,r2,none⟩::rest) f L:=by
 refine l_val rfl rfl hm (v:= .bool b) (hx▸e_move) ?_
 cases b
 ·
  exact h rfl (by simpa using k)
 ·
  refine l_skip g1 hj (b:=true) (by rw[upd_self]) rfl e1 n1 ?_
  exact l_val rfl rfl hp (v:= .bool true) (e_pick_t (by change upd _ _ _ m=_;rw[upd_ne _ _ a1,upd_self])) (k undef)
theorem l_and2{m p j d1 d2:Nat}{x q:Operand}{o1 o2:Oper}{t1 t2:TypeId}{s1 s2:String}{r1 r2:Array Edge}(b c:Bool)(hx:ev f x= .bool b)
 (h:b=true→(∀x1 x2,RunL P ro n ds β ops Q rest (upd (upd (upd (upd f m (.bool true)) d1 x1) d2 x2) p (.bool (c))) L)→RunL P ro n ds β ops Q (o1::o2::⟨some p,.pick (.tmp m) q (.const (.bool false)),t2,s2,r2,none⟩::rest) (upd f m (.bool true)) L)
 (k:∀x1 x2,RunL P ro n ds β ops Q rest (upd (upd (upd (upd f m (.bool b)) d1 x1) d2 x2) p (.bool (b&&c))) L)(hm:Nat.blt m n=true:=by rfl)(hp:Nat.blt p n=true:=by rfl)(e1:o1.dst=some d1:=by rfl)(g1:o1.guard=some (j,true):=by rfl)(n1:Nat.blt d1 n=true:=by rfl)(a1:Nat.beq m d1=false:=by rfl)(e2:o2.dst=some d2:=by rfl)(g2:o2.guard=some (j,true):=by rfl)(n2:Nat.blt d2 n=true:=by rfl)(a2:Nat.beq m d2=false:=by rfl)(hj:(ops[j]?).bind (·.dst)=some m:=by rfl):
  RunL P ro n ds β ops Q (⟨some m,.move x,t1,s1,r1,none⟩::o1::o2::⟨some p,.pick (.tmp m) q (.const (.bool false)),t2,s2,r2,none⟩::rest) f L:=by
 refine l_val rfl rfl hm (v:= .bool b) (hx▸e_move) ?_
 cases b
 ·
  refine l_skip g1 hj (b:=false) (by rw[upd_self]) rfl e1 n1 ?_
  refine l_skip g2 hj (b:=false) (by rw[upd_ne _ _ a1,upd_self]) rfl e2 n2 ?_
  exact l_val rfl rfl hp (v:= .bool false) (e_pick_f (by change upd _ _ _ m=_;rw[upd_ne _ _ a2,upd_ne _ _ a1,upd_self])) (k undef undef)
 ·
  exact h rfl (by simpa using k)
theorem l_or2{m p j d1 d2:Nat}{x q:Operand}{o1 o2:Oper}{t1 t2:TypeId}{s1 s2:String}{r1 r2:Array Edge}(b c:Bool)(hx:ev f x= .bool b)
 (h:b=false→(∀x1 x2,RunL P ro n ds β ops Q rest (upd (upd (upd (upd f m (.bool false)) d1 x1) d2 x2) p (.bool (c))) L)→RunL P ro n ds β ops Q (o1::o2::⟨some p,.pick (.tmp m) (.const (.bool true)) q,t2,s2,r2,none⟩::rest) (upd f m (.bool false)) L)
 (k:∀x1 x2,RunL P ro n ds β ops Q rest (upd (upd (upd (upd f m (.bool b)) d1 x1) d2 x2) p (.bool (b||c))) L)(hm:Nat.blt m n=true:=by rfl)(hp:Nat.blt p n=true:=by rfl)(e1:o1.dst=some d1:=by rfl)(g1:o1.guard=some (j,false):=by rfl)(n1:Nat.blt d1 n=true:=by rfl)(a1:Nat.beq m d1=false:=by rfl)(e2:o2.dst=some d2:=by rfl)(g2:o2.guard=some (j,false):=by rfl)(n2:Nat.blt d2 n=true:=by rfl)(a2:Nat.beq m d2=false:=by rfl)(hj:(ops[j]?).bind (·.dst)=some m:=by rfl):
  RunL P ro n ds β ops Q (⟨some m,.move x,t1,s1,r1,none⟩::o1::o2::⟨some p,.pick (.tmp m) (.const (.bool true)) q,t2,s2,r2,none⟩::rest) f L:=by
 refine l_val rfl rfl hm (v:= .bool b) (hx▸e_move) ?_
 cases b
 ·
  exact h rfl (by simpa using k)
 ·
  refine l_skip g1 hj (b:=true) (by rw[upd_self]) rfl e1 n1 ?_
  refine l_skip g2 hj (b:=true) (by rw[upd_ne _ _ a1,upd_self]) rfl e2 n2 ?_
  exact l_val rfl rfl hp (v:= .bool true) (e_pick_t (by change upd _ _ _ m=_;rw[upd_ne _ _ a2,upd_ne _ _ a1,upd_self])) (k undef undef)
theorem l_and3{m p j d1 d2 d3:Nat}{x q:Operand}{o1 o2 o3:Oper}{t1 t2:TypeId}{s1 s2:String}{r1 r2:Array Edge}(b c:Bool)(hx:ev f x= .bool b)
 (h:b=true→(∀x1 x2 x3,RunL P ro n ds β ops Q rest (upd (upd (upd (upd (upd f m (.bool true)) d1 x1) d2 x2) d3 x3) p (.bool (c))) L)→RunL P ro n ds β ops Q (o1::o2::o3::⟨some p,.pick (.tmp m) q (.const (.bool false)),t2,s2,r2,none⟩::rest) (upd f m (.bool true)) L)
 (k:∀x1 x2 x3,RunL P ro n ds β ops Q rest (upd (upd (upd (upd (upd f m (.bool b)) d1 x1) d2 x2) d3 x3) p (.bool (b&&c))) L)(hm:Nat.blt m n=true:=by rfl)(hp:Nat.blt p n=true:=by rfl)(e1:o1.dst=some d1:=by rfl)(g1:o1.guard=some (j,true):=by rfl)(n1:Nat.blt d1 n=true:=by rfl)(a1:Nat.beq m d1=false:=by rfl)(e2:o2.dst=some d2:=by rfl)(g2:o2.guard=some (j,true):=by rfl)(n2:Nat.blt d2 n=true:=by rfl)(a2:Nat.beq m d2=false:=by rfl)(e3:o3.dst=some d3:=by rfl)(g3:o3.guard=some (j,true):=by rfl)(n3:Nat.blt d3 n=true:=by rfl)(a3:Nat.beq m d3=false:=by rfl)(hj:(ops[j]?).bind (·.dst)=some m:=by rfl):
  RunL P ro n ds β ops Q (⟨some m,.move x,t1,s1,r1,none⟩::o1::o2::o3::⟨some p,.pick (.tmp m) q (.const (.bool false)),t2,s2,r2,none⟩::rest) f L:=by
 refine l_val rfl rfl hm (v:= .bool b) (hx▸e_move) ?_
 cases b
 ·
  refine l_skip g1 hj (b:=false) (by rw[upd_self]) rfl e1 n1 ?_
  refine l_skip g2 hj (b:=false) (by rw[upd_ne _ _ a1,upd_self]) rfl e2 n2 ?_
  refine l_skip g3 hj (b:=false) (by rw[upd_ne _ _ a2,upd_ne _ _ a1,upd_self]) rfl e3 n3 ?_
  exact l_val rfl rfl hp (v:= .bool false) (e_pick_f (by change upd _ _ _ m=_;rw[upd_ne _ _ a3,upd_ne _ _ a2,upd_ne _ _ a1,upd_self])) (k undef undef undef)
 ·
  exact h rfl (by simpa using k)
theorem l_and4{m p j d1 d2 d3 d4:Nat}{x q:Operand}{o1 o2 o3 o4:Oper}{t1 t2:TypeId}{s1 s2:String}{r1 r2:Array Edge}(b c:Bool)(hx:ev f x= .bool b)
 (h:b=true→(∀x1 x2 x3 x4,RunL P ro n ds β ops Q rest (upd (upd (upd (upd (upd (upd f m (.bool true)) d1 x1) d2 x2) d3 x3) d4 x4) p (.bool (c))) L)→RunL P ro n ds β ops Q (o1::o2::o3::o4::⟨some p,.pick (.tmp m) q (.const (.bool false)),t2,s2,r2,none⟩::rest) (upd f m (.bool true)) L)
 (k:∀x1 x2 x3 x4,RunL P ro n ds β ops Q rest (upd (upd (upd (upd (upd (upd f m (.bool b)) d1 x1) d2 x2) d3 x3) d4 x4) p (.bool (b&&c))) L)(hm:Nat.blt m n=true:=by rfl)(hp:Nat.blt p n=true:=by rfl)(e1:o1.dst=some d1:=by rfl)(g1:o1.guard=some (j,true):=by rfl)(n1:Nat.blt d1 n=true:=by rfl)(a1:Nat.beq m d1=false:=by rfl)(e2:o2.dst=some d2:=by rfl)(g2:o2.guard=some (j,true):=by rfl)(n2:Nat.blt d2 n=true:=by rfl)(a2:Nat.beq m d2=false:=by rfl)(e3:o3.dst=some d3:=by rfl)(g3:o3.guard=some (j,true):=by rfl)(n3:Nat.blt d3 n=true:=by rfl)(a3:Nat.beq m d3=false:=by rfl)(e4:o4.dst=some d4:=by rfl)(g4:o4.guard=some (j,true):=by rfl)(n4:Nat.blt d4 n=true:=by rfl)(a4:Nat.beq m d4=false:=by rfl)(hj:(ops[j]?).bind (·.dst)=some m:=by rfl):
  RunL P ro n ds β ops Q (⟨some m,.move x,t1,s1,r1,none⟩::o1::o2::o3::o4::⟨some p,.pick (.tmp m) q (.const (.bool false)),t2,s2,r2,none⟩::rest) f L:=by
 refine l_val rfl rfl hm (v:= .bool b) (hx▸e_move) ?_
 cases b
 ·
  refine l_skip g1 hj (b:=false) (by rw[upd_self]) rfl e1 n1 ?_
  refine l_skip g2 hj (b:=false) (by rw[upd_ne _ _ a1,upd_self]) rfl e2 n2 ?_
  refine l_skip g3 hj (b:=false) (by rw[upd_ne _ _ a2,upd_ne _ _ a1,upd_self]) rfl e3 n3 ?_
  refine l_skip g4 hj (b:=false) (by rw[upd_ne _ _ a3,upd_ne _ _ a2,upd_ne _ _ a1,upd_self]) rfl e4 n4 ?_
  exact l_val rfl rfl hp (v:= .bool false) (e_pick_f (by change upd _ _ _ m=_;rw[upd_ne _ _ a4,upd_ne _ _ a3,upd_ne _ _ a2,upd_ne _ _ a1,upd_self])) (k undef undef undef undef)
 ·
  exact h rfl (by simpa using k)
theorem l_or4{m p j d1 d2 d3 d4:Nat}{x q:Operand}{o1 o2 o3 o4:Oper}{t1 t2:TypeId}{s1 s2:String}{r1 r2:Array Edge}(b c:Bool)(hx:ev f x= .bool b)
 (h:b=false→(∀x1 x2 x3 x4,RunL P ro n ds β ops Q rest (upd (upd (upd (upd (upd (upd f m (.bool false)) d1 x1) d2 x2) d3 x3) d4 x4) p (.bool (c))) L)→RunL P ro n ds β ops Q (o1::o2::o3::o4::⟨some p,.pick (.tmp m) (.const (.bool true)) q,t2,s2,r2,none⟩::rest) (upd f m (.bool false)) L)
 (k:∀x1 x2 x3 x4,RunL P ro n ds β ops Q rest (upd (upd (upd (upd (upd (upd f m (.bool b)) d1 x1) d2 x2) d3 x3) d4 x4) p (.bool (b||c))) L)(hm:Nat.blt m n=true:=by rfl)(hp:Nat.blt p n=true:=by rfl)(e1:o1.dst=some d1:=by rfl)(g1:o1.guard=some (j,false):=by rfl)(n1:Nat.blt d1 n=true:=by rfl)(a1:Nat.beq m d1=false:=by rfl)(e2:o2.dst=some d2:=by rfl)(g2:o2.guard=some (j,false):=by rfl)(n2:Nat.blt d2 n=true:=by rfl)(a2:Nat.beq m d2=false:=by rfl)(e3:o3.dst=some d3:=by rfl)(g3:o3.guard=some (j,false):=by rfl)(n3:Nat.blt d3 n=true:=by rfl)(a3:Nat.beq m d3=false:=by rfl)(e4:o4.dst=some d4:=by rfl)(g4:o4.guard=some (j,false):=by rfl)(n4:Nat.blt d4 n=true:=by rfl)(a4:Nat.beq m d4=false:=by rfl)(hj:(ops[j]?).bind (·.dst)=some m:=by rfl):
  RunL P ro n ds β ops Q (⟨some m,.move x,t1,s1,r1,none⟩::o1::o2::o3::o4::⟨some p,.pick (.tmp m) (.const (.bool true)) q,t2,s2,r2,none⟩::rest) f L:=by
 refine l_val rfl rfl hm (v:= .bool b) (hx▸e_move) ?_
 cases b
 ·
  exact h rfl (by simpa using k)
 ·
  refine l_skip g1 hj (b:=true) (by rw[upd_self]) rfl e1 n1 ?_
  refine l_skip g2 hj (b:=true) (by rw[upd_ne _ _ a1,upd_self]) rfl e2 n2 ?_
  refine l_skip g3 hj (b:=true) (by rw[upd_ne _ _ a2,upd_ne _ _ a1,upd_self]) rfl e3 n3 ?_
  refine l_skip g4 hj (b:=true) (by rw[upd_ne _ _ a3,upd_ne _ _ a2,upd_ne _ _ a1,upd_self]) rfl e4 n4 ?_
  exact l_val rfl rfl hp (v:= .bool true) (e_pick_t (by change upd _ _ _ m=_;rw[upd_ne _ _ a4,upd_ne _ _ a3,upd_ne _ _ a2,upd_ne _ _ a1,upd_self])) (k undef undef undef undef)
theorem l_and5{m p j d1 d2 d3 d4 d5:Nat}{x q:Operand}{o1 o2 o3 o4 o5:Oper}{t1 t2:TypeId}{s1 s2:String}{r1 r2:Array Edge}(b c:Bool)(hx:ev f x= .bool b)
 (h:b=true→(∀x1 x2 x3 x4 x5,RunL P ro n ds β ops Q rest (upd (upd (upd (upd (upd (upd (upd f m (.bool true)) d1 x1) d2 x2) d3 x3) d4 x4) d5 x5) p (.bool (c))) L)→RunL P ro n ds β ops Q (o1::o2::o3::o4::o5::⟨some p,.pick (.tmp m) q (.const (.bool false)),t2,s2,r2,none⟩::rest) (upd f m (.bool true)) L)
 (k:∀x1 x2 x3 x4 x5,RunL P ro n ds β ops Q rest (upd (upd (upd (upd (upd (upd (upd f m (.bool b)) d1 x1) d2 x2) d3 x3) d4 x4) d5 x5) p (.bool (b&&c))) L)(hm:Nat.blt m n=true:=by rfl)(hp:Nat.blt p n=true:=by rfl)(e1:o1.dst=some d1:=by rfl)(g1:o1.guard=some (j,true):=by rfl)(n1:Nat.blt d1 n=true:=by rfl)(a1:Nat.beq m d1=false:=by rfl)(e2:o2.dst=some d2:=by rfl)(g2:o2.guard=some (j,true):=by rfl)(n2:Nat.blt d2 n=true:=by rfl)(a2:Nat.beq m d2=false:=by rfl)(e3:o3.dst=some d3:=by rfl)(g3:o3.guard=some (j,true):=by rfl)(n3:Nat.blt d3 n=true:=by rfl)(a3:Nat.beq m d3=false:=by rfl)(e4:o4.dst=some d4:=by rfl)(g4:o4.guard=some (j,true):=by rfl)(n4:Nat.blt d4 n=true:=by rfl)(a4:Nat.beq m d4=false:=by rfl)(e5:o5.dst=some d5:=by rfl)(g5:o5.guard=some (j,true):=by rfl)(n5:Nat.blt d5 n=true:=by rfl)(a5:Nat.beq m d5=false:=by rfl)(hj:(ops[j]?).bind (·.dst)=some m:=by rfl):
  RunL P ro n ds β ops Q (⟨some m,.move x,t1,s1,r1,none⟩::o1::o2::o3::o4::o5::⟨some p,.pick (.tmp m) q (.const (.bool false)),t2,s2,r2,none⟩::rest) f L:=by
 refine l_val rfl rfl hm (v:= .bool b) (hx▸e_move) ?_
 cases b
 ·
  refine l_skip g1 hj (b:=false) (by rw[upd_self]) rfl e1 n1 ?_
  refine l_skip g2 hj (b:=false) (by rw[upd_ne _ _ a1,upd_self]) rfl e2 n2 ?_
  refine l_skip g3 hj (b:=false) (by rw[upd_ne _ _ a2,upd_ne _ _ a1,upd_self]) rfl e3 n3 ?_
  refine l_skip g4 hj (b:=false) (by rw[upd_ne _ _ a3,upd_ne _ _ a2,upd_ne _ _ a1,upd_self]) rfl e4 n4 ?_
  refine l_skip g5 hj (b:=false) (by rw[upd_ne _ _ a4,upd_ne _ _ a3,upd_ne _ _ a2,upd_ne _ _ a1,upd_self]) rfl e5 n5 ?_
  exact l_val rfl rfl hp (v:= .bool false) (e_pick_f (by change upd _ _ _ m=_;rw[upd_ne _ _ a5,upd_ne _ _ a4,upd_ne _ _ a3,upd_ne _ _ a2,upd_ne _ _ a1,upd_self])) (k undef undef undef undef undef)
 ·
  exact h rfl (by simpa using k)
theorem l_and6{m p j d1 d2 d3 d4 d5 d6:Nat}{x q:Operand}{o1 o2 o3 o4 o5 o6:Oper}{t1 t2:TypeId}{s1 s2:String}{r1 r2:Array Edge}(b c:Bool)(hx:ev f x= .bool b)
 (h:b=true→(∀x1 x2 x3 x4 x5 x6,RunL P ro n ds β ops Q rest (upd (upd (upd (upd (upd (upd (upd (upd f m (.bool true)) d1 x1) d2 x2) d3 x3) d4 x4) d5 x5) d6 x6) p (.bool (c))) L)→RunL P ro n ds β ops Q (o1::o2::o3::o4::o5::o6::⟨some p,.pick (.tmp m) q (.const (.bool false)),t2,s2,r2,none⟩::rest) (upd f m (.bool true)) L)
 (k:∀x1 x2 x3 x4 x5 x6,RunL P ro n ds β ops Q rest (upd (upd (upd (upd (upd (upd (upd (upd f m (.bool b)) d1 x1) d2 x2) d3 x3) d4 x4) d5 x5) d6 x6) p (.bool (b&&c))) L)(hm:Nat.blt m n=true:=by rfl)(hp:Nat.blt p n=true:=by rfl)(e1:o1.dst=some d1:=by rfl)(g1:o1.guard=some (j,true):=by rfl)(n1:Nat.blt d1 n=true:=by rfl)(a1:Nat.beq m d1=false:=by rfl)(e2:o2.dst=some d2:=by rfl)(g2:o2.guard=some (j,true):=by rfl)(n2:Nat.blt d2 n=true:=by rfl)(a2:Nat.beq m d2=false:=by rfl)(e3:o3.dst=some d3:=by rfl)(g3:o3.guard=some (j,true):=by rfl)(n3:Nat.blt d3 n=true:=by rfl)(a3:Nat.beq m d3=false:=by rfl)(e4:o4.dst=some d4:=by rfl)(g4:o4.guard=some (j,true):=by rfl)(n4:Nat.blt d4 n=true:=by rfl)(a4:Nat.beq m d4=false:=by rfl)(e5:o5.dst=some d5:=by rfl)(g5:o5.guard=some (j,true):=by rfl)(n5:Nat.blt d5 n=true:=by rfl)(a5:Nat.beq m d5=false:=by rfl)(e6:o6.dst=some d6:=by rfl)(g6:o6.guard=some (j,true):=by rfl)(n6:Nat.blt d6 n=true:=by rfl)(a6:Nat.beq m d6=false:=by rfl)(hj:(ops[j]?).bind (·.dst)=some m:=by rfl):
  RunL P ro n ds β ops Q (⟨some m,.move x,t1,s1,r1,none⟩::o1::o2::o3::o4::o5::o6::⟨some p,.pick (.tmp m) q (.const (.bool false)),t2,s2,r2,none⟩::rest) f L:=by
 refine l_val rfl rfl hm (v:= .bool b) (hx▸e_move) ?_
 cases b
 ·
  refine l_skip g1 hj (b:=false) (by rw[upd_self]) rfl e1 n1 ?_
  refine l_skip g2 hj (b:=false) (by rw[upd_ne _ _ a1,upd_self]) rfl e2 n2 ?_
  refine l_skip g3 hj (b:=false) (by rw[upd_ne _ _ a2,upd_ne _ _ a1,upd_self]) rfl e3 n3 ?_
  refine l_skip g4 hj (b:=false) (by rw[upd_ne _ _ a3,upd_ne _ _ a2,upd_ne _ _ a1,upd_self]) rfl e4 n4 ?_
  refine l_skip g5 hj (b:=false) (by rw[upd_ne _ _ a4,upd_ne _ _ a3,upd_ne _ _ a2,upd_ne _ _ a1,upd_self]) rfl e5 n5 ?_
  refine l_skip g6 hj (b:=false) (by rw[upd_ne _ _ a5,upd_ne _ _ a4,upd_ne _ _ a3,upd_ne _ _ a2,upd_ne _ _ a1,upd_self]) rfl e6 n6 ?_
  exact l_val rfl rfl hp (v:= .bool false) (e_pick_f (by change upd _ _ _ m=_;rw[upd_ne _ _ a6,upd_ne _ _ a5,upd_ne _ _ a4,upd_ne _ _ a3,upd_ne _ _ a2,upd_ne _ _ a1,upd_self])) (k undef undef undef undef undef undef)
 ·
  exact h rfl (by simpa using k)
theorem l_or7{m p j d1 d2 d3 d4 d5 d6 d7:Nat}{x q:Operand}{o1 o2 o3 o4 o5 o6 o7:Oper}{t1 t2:TypeId}{s1 s2:String}{r1 r2:Array Edge}(b c:Bool)(hx:ev f x= .bool b)
 (h:b=false→(∀x1 x2 x3 x4 x5 x6 x7,RunL P ro n ds β ops Q rest (upd (upd (upd (upd (upd (upd (upd (upd (upd f m (.bool false)) d1 x1) d2 x2) d3 x3) d4 x4) d5 x5) d6 x6) d7 x7) p (.bool (c))) L)→RunL P ro n ds β ops Q (o1::o2::o3::o4::o5::o6::o7::⟨some p,.pick (.tmp m) (.const (.bool true)) q,t2,s2,r2,none⟩::rest) (upd f m (.bool false)) L)
 (k:∀x1 x2 x3 x4 x5 x6 x7,RunL P ro n ds β ops Q rest (upd (upd (upd (upd (upd (upd (upd (upd (upd f m (.bool b)) d1 x1) d2 x2) d3 x3) d4 x4) d5 x5) d6 x6) d7 x7) p (.bool (b||c))) L)(hm:Nat.blt m n=true:=by rfl)(hp:Nat.blt p n=true:=by rfl)(e1:o1.dst=some d1:=by rfl)(g1:o1.guard=some (j,false):=by rfl)(n1:Nat.blt d1 n=true:=by rfl)(a1:Nat.beq m d1=false:=by rfl)(e2:o2.dst=some d2:=by rfl)(g2:o2.guard=some (j,false):=by rfl)(n2:Nat.blt d2 n=true:=by rfl)(a2:Nat.beq m d2=false:=by rfl)(e3:o3.dst=some d3:=by rfl)(g3:o3.guard=some (j,false):=by rfl)(n3:Nat.blt d3 n=true:=by rfl)(a3:Nat.beq m d3=false:=by rfl)(e4:o4.dst=some d4:=by rfl)(g4:o4.guard=some (j,false):=by rfl)(n4:Nat.blt d4 n=true:=by rfl)(a4:Nat.beq m d4=false:=by rfl)(e5:o5.dst=some d5:=by rfl)(g5:o5.guard=some (j,false):=by rfl)(n5:Nat.blt d5 n=true:=by rfl)(a5:Nat.beq m d5=false:=by rfl)(e6:o6.dst=some d6:=by rfl)(g6:o6.guard=some (j,false):=by rfl)(n6:Nat.blt d6 n=true:=by rfl)(a6:Nat.beq m d6=false:=by rfl)(e7:o7.dst=some d7:=by rfl)(g7:o7.guard=some (j,false):=by rfl)(n7:Nat.blt d7 n=true:=by rfl)(a7:Nat.beq m d7=false:=by rfl)(hj:(ops[j]?).bind (·.dst)=some m:=by rfl):
  RunL P ro n ds β ops Q (⟨some m,.move x,t1,s1,r1,none⟩::o1::o2::o3::o4::o5::o6::o7::⟨some p,.pick (.tmp m) (.const (.bool true)) q,t2,s2,r2,none⟩::rest) f L:=by
 refine l_val rfl rfl hm (v:= .bool b) (hx▸e_move) ?_
 cases b
 ·
  exact h rfl (by simpa using k)
 ·
  refine l_skip g1 hj (b:=true) (by rw[upd_self]) rfl e1 n1 ?_
  refine l_skip g2 hj (b:=true) (by rw[upd_ne _ _ a1,upd_self]) rfl e2 n2 ?_
  refine l_skip g3 hj (b:=true) (by rw[upd_ne _ _ a2,upd_ne _ _ a1,upd_self]) rfl e3 n3 ?_
  refine l_skip g4 hj (b:=true) (by rw[upd_ne _ _ a3,upd_ne _ _ a2,upd_ne _ _ a1,upd_self]) rfl e4 n4 ?_
  refine l_skip g5 hj (b:=true) (by rw[upd_ne _ _ a4,upd_ne _ _ a3,upd_ne _ _ a2,upd_ne _ _ a1,upd_self]) rfl e5 n5 ?_
  refine l_skip g6 hj (b:=true) (by rw[upd_ne _ _ a5,upd_ne _ _ a4,upd_ne _ _ a3,upd_ne _ _ a2,upd_ne _ _ a1,upd_self]) rfl e6 n6 ?_
  refine l_skip g7 hj (b:=true) (by rw[upd_ne _ _ a6,upd_ne _ _ a5,upd_ne _ _ a4,upd_ne _ _ a3,upd_ne _ _ a2,upd_ne _ _ a1,upd_self]) rfl e7 n7 ?_
  exact l_val rfl rfl hp (v:= .bool true) (e_pick_t (by change upd _ _ _ m=_;rw[upd_ne _ _ a7,upd_ne _ _ a6,upd_ne _ _ a5,upd_ne _ _ a4,upd_ne _ _ a3,upd_ne _ _ a2,upd_ne _ _ a1,upd_self])) (k undef undef undef undef undef undef undef)
theorem q_or5{m p j d1 d2 d3 d4 d5:Nat}{x q:Operand}{o1 o2 o3 o4 o5:Oper}{t1 t2:TypeId}{s1 s2:String}{r1 r2:Array Edge}(b c:Bool)(hx:ev f x= .bool b)
 (h:b=false→(∀x1 x2 x3 x4 x5,RunQ P n ds β ops Q rest (upd (upd (upd (upd (upd (upd (upd f m (.bool false)) d1 x1) d2 x2) d3 x3) d4 x4) d5 x5) p (.bool (c))) L)→RunQ P n ds β ops Q (o1::o2::o3::o4::o5::⟨some p,.pick (.tmp m) (.const (.bool true)) q,t2,s2,r2,none⟩::rest) (upd f m (.bool false)) L)
 (k:∀x1 x2 x3 x4 x5,RunQ P n ds β ops Q rest (upd (upd (upd (upd (upd (upd (upd f m (.bool b)) d1 x1) d2 x2) d3 x3) d4 x4) d5 x5) p (.bool (b||c))) L)(hm:Nat.blt m n=true:=by rfl)(hp:Nat.blt p n=true:=by rfl)(e1:o1.dst=some d1:=by rfl)(g1:o1.guard=some (j,false):=by rfl)(n1:Nat.blt d1 n=true:=by rfl)(a1:Nat.beq m d1=false:=by rfl)(e2:o2.dst=some d2:=by rfl)(g2:o2.guard=some (j,false):=by rfl)(n2:Nat.blt d2 n=true:=by rfl)(a2:Nat.beq m d2=false:=by rfl)(e3:o3.dst=some d3:=by rfl)(g3:o3.guard=some (j,false):=by rfl)(n3:Nat.blt d3 n=true:=by rfl)(a3:Nat.beq m d3=false:=by rfl)(e4:o4.dst=some d4:=by rfl)(g4:o4.guard=some (j,false):=by rfl)(n4:Nat.blt d4 n=true:=by rfl)(a4:Nat.beq m d4=false:=by rfl)(e5:o5.dst=some d5:=by rfl)(g5:o5.guard=some (j,false):=by rfl)(n5:Nat.blt d5 n=true:=by rfl)(a5:Nat.beq m d5=false:=by rfl)(hj:(ops[j]?).bind (·.dst)=some m:=by rfl):
  RunQ P n ds β ops Q (⟨some m,.move x,t1,s1,r1,none⟩::o1::o2::o3::o4::o5::⟨some p,.pick (.tmp m) (.const (.bool true)) q,t2,s2,r2,none⟩::rest) f L:=by
 refine q_val rfl rfl hm (v:= .bool b) (hx▸e_move) ?_
 cases b
 ·
  exact h rfl (by simpa using k)
 ·
  refine q_skip g1 hj (b:=true) (by rw[upd_self]) rfl e1 n1 ?_
  refine q_skip g2 hj (b:=true) (by rw[upd_ne _ _ a1,upd_self]) rfl e2 n2 ?_
  refine q_skip g3 hj (b:=true) (by rw[upd_ne _ _ a2,upd_ne _ _ a1,upd_self]) rfl e3 n3 ?_
  refine q_skip g4 hj (b:=true) (by rw[upd_ne _ _ a3,upd_ne _ _ a2,upd_ne _ _ a1,upd_self]) rfl e4 n4 ?_
  refine q_skip g5 hj (b:=true) (by rw[upd_ne _ _ a4,upd_ne _ _ a3,upd_ne _ _ a2,upd_ne _ _ a1,upd_self]) rfl e5 n5 ?_
  exact q_val rfl rfl hp (v:= .bool true) (e_pick_t (by change upd _ _ _ m=_;rw[upd_ne _ _ a5,upd_ne _ _ a4,upd_ne _ _ a3,upd_ne _ _ a2,upd_ne _ _ a1,upd_self])) (k undef undef undef undef undef)
theorem q_or11{m p j d1 d2 d3 d4 d5 d6 d7 d8 d9 d10 d11:Nat}{x q:Operand}{o1 o2 o3 o4 o5 o6 o7 o8 o9 o10 o11:Oper}{t1 t2:TypeId}{s1 s2:String}{r1 r2:Array Edge}(b c:Bool)(hx:ev f x= .bool b)
 (h:b=false→(∀x1 x2 x3 x4 x5 x6 x7 x8 x9 x10 x11,RunQ P n ds β ops Q rest (upd (upd (upd (upd (upd (upd (upd (upd (upd (upd (upd (upd (upd f m (.bool false)) d1 x1) d2 x2) d3 x3) d4 x4) d5 x5) d6 x6) d7 x7) d8 x8) d9 x9) d10 x10) d11 x11) p (.bool (c))) L)→RunQ P n ds β ops Q (o1::o2::o3::o4::o5::o6::o7::o8::o9::o10::o11::⟨some p,.pick (.tmp m) (.const (.bool true)) q,t2,s2,r2,none⟩::rest) (upd f m (.bool false)) L)
 (k:∀x1 x2 x3 x4 x5 x6 x7 x8 x9 x10 x11,RunQ P n ds β ops Q rest (upd (upd (upd (upd (upd (upd (upd (upd (upd (upd (upd (upd (upd f m (.bool b)) d1 x1) d2 x2) d3 x3) d4 x4) d5 x5) d6 x6) d7 x7) d8 x8) d9 x9) d10 x10) d11 x11) p (.bool (b||c))) L)(hm:Nat.blt m n=true:=by rfl)(hp:Nat.blt p n=true:=by rfl)(e1:o1.dst=some d1:=by rfl)(g1:o1.guard=some (j,false):=by rfl)(n1:Nat.blt d1 n=true:=by rfl)(a1:Nat.beq m d1=false:=by rfl)(e2:o2.dst=some d2:=by rfl)(g2:o2.guard=some (j,false):=by rfl)(n2:Nat.blt d2 n=true:=by rfl)(a2:Nat.beq m d2=false:=by rfl)(e3:o3.dst=some d3:=by rfl)(g3:o3.guard=some (j,false):=by rfl)(n3:Nat.blt d3 n=true:=by rfl)(a3:Nat.beq m d3=false:=by rfl)(e4:o4.dst=some d4:=by rfl)(g4:o4.guard=some (j,false):=by rfl)(n4:Nat.blt d4 n=true:=by rfl)(a4:Nat.beq m d4=false:=by rfl)(e5:o5.dst=some d5:=by rfl)(g5:o5.guard=some (j,false):=by rfl)(n5:Nat.blt d5 n=true:=by rfl)(a5:Nat.beq m d5=false:=by rfl)(e6:o6.dst=some d6:=by rfl)(g6:o6.guard=some (j,false):=by rfl)(n6:Nat.blt d6 n=true:=by rfl)(a6:Nat.beq m d6=false:=by rfl)(e7:o7.dst=some d7:=by rfl)(g7:o7.guard=some (j,false):=by rfl)(n7:Nat.blt d7 n=true:=by rfl)(a7:Nat.beq m d7=false:=by rfl)(e8:o8.dst=some d8:=by rfl)(g8:o8.guard=some (j,false):=by rfl)(n8:Nat.blt d8 n=true:=by rfl)(a8:Nat.beq m d8=false:=by rfl)(e9:o9.dst=some d9:=by rfl)(g9:o9.guard=some (j,false):=by rfl)(n9:Nat.blt d9 n=true:=by rfl)(a9:Nat.beq m d9=false:=by rfl)(e10:o10.dst=some d10:=by rfl)(g10:o10.guard=some (j,false):=by rfl)(n10:Nat.blt d10 n=true:=by rfl)(a10:Nat.beq m d10=false:=by rfl)(e11:o11.dst=some d11:=by rfl)(g11:o11.guard=some (j,false):=by rfl)(n11:Nat.blt d11 n=true:=by rfl)(a11:Nat.beq m d11=false:=by rfl)(hj:(ops[j]?).bind (·.dst)=some m:=by rfl):
  RunQ P n ds β ops Q (⟨some m,.move x,t1,s1,r1,none⟩::o1::o2::o3::o4::o5::o6::o7::o8::o9::o10::o11::⟨some p,.pick (.tmp m) (.const (.bool true)) q,t2,s2,r2,none⟩::rest) f L:=by
 refine q_val rfl rfl hm (v:= .bool b) (hx▸e_move) ?_
 cases b
 ·
  exact h rfl (by simpa using k)
 ·
  refine q_skip g1 hj (b:=true) (by rw[upd_self]) rfl e1 n1 ?_
  refine q_skip g2 hj (b:=true) (by rw[upd_ne _ _ a1,upd_self]) rfl e2 n2 ?_
  refine q_skip g3 hj (b:=true) (by rw[upd_ne _ _ a2,upd_ne _ _ a1,upd_self]) rfl e3 n3 ?_
  refine q_skip g4 hj (b:=true) (by rw[upd_ne _ _ a3,upd_ne _ _ a2,upd_ne _ _ a1,upd_self]) rfl e4 n4 ?_
  refine q_skip g5 hj (b:=true) (by rw[upd_ne _ _ a4,upd_ne _ _ a3,upd_ne _ _ a2,upd_ne _ _ a1,upd_self]) rfl e5 n5 ?_
  refine q_skip g6 hj (b:=true) (by rw[upd_ne _ _ a5,upd_ne _ _ a4,upd_ne _ _ a3,upd_ne _ _ a2,upd_ne _ _ a1,upd_self]) rfl e6 n6 ?_
  refine q_skip g7 hj (b:=true) (by rw[upd_ne _ _ a6,upd_ne _ _ a5,upd_ne _ _ a4,upd_ne _ _ a3,upd_ne _ _ a2,upd_ne _ _ a1,upd_self]) rfl e7 n7 ?_
  refine q_skip g8 hj (b:=true) (by rw[upd_ne _ _ a7,upd_ne _ _ a6,upd_ne _ _ a5,upd_ne _ _ a4,upd_ne _ _ a3,upd_ne _ _ a2,upd_ne _ _ a1,upd_self]) rfl e8 n8 ?_
  refine q_skip g9 hj (b:=true) (by rw[upd_ne _ _ a8,upd_ne _ _ a7,upd_ne _ _ a6,upd_ne _ _ a5,upd_ne _ _ a4,upd_ne _ _ a3,upd_ne _ _ a2,upd_ne _ _ a1,upd_self]) rfl e9 n9 ?_
  refine q_skip g10 hj (b:=true) (by rw[upd_ne _ _ a9,upd_ne _ _ a8,upd_ne _ _ a7,upd_ne _ _ a6,upd_ne _ _ a5,upd_ne _ _ a4,upd_ne _ _ a3,upd_ne _ _ a2,upd_ne _ _ a1,upd_self]) rfl e10 n10 ?_
  refine q_skip g11 hj (b:=true) (by rw[upd_ne _ _ a10,upd_ne _ _ a9,upd_ne _ _ a8,upd_ne _ _ a7,upd_ne _ _ a6,upd_ne _ _ a5,upd_ne _ _ a4,upd_ne _ _ a3,upd_ne _ _ a2,upd_ne _ _ a1,upd_self]) rfl e11 n11 ?_
  exact q_val rfl rfl hp (v:= .bool true) (e_pick_t (by change upd _ _ _ m=_;rw[upd_ne _ _ a11,upd_ne _ _ a10,upd_ne _ _ a9,upd_ne _ _ a8,upd_ne _ _ a7,upd_ne _ _ a6,upd_ne _ _ a5,upd_ne _ _ a4,upd_ne _ _ a3,upd_ne _ _ a2,upd_ne _ _ a1,upd_self])) (k undef undef undef undef undef undef undef undef undef undef undef)
end
end Go.Sl
namespace Go.Sl
abbrev rB(p:Option Addr)(xs:Bs)(c:Nat):Res:=row (.slice p xs.length c) 5 1 xs.length (BX xs)
abbrev sB{α:Type}(p:Option Addr)(xs:List α)(c:Nat):Value:= .slice p xs.length c
abbrev pp(b o:Nat):Value:= .pointer (some ⟨b,o,none⟩)
theorem kU{β:Base}{L:List Res}{h:PHeap}{p:Option Addr}{m c T:Nat}{bs:Bs}(kn:∀F,Knows β L F→F h)(i:Nat)(hi:L[i]? =some (row (.slice p m c) T 1 m (BX bs))):Sl U8R h (.slice p m c) bs:=kn (fun h=>Sl U8R h (.slice p m c) bs) (Knows.of_res i hi (Sl.mono U8R _ _) fun _ h=>row_u8 h)
theorem kB{β:Base}{L:List Res}{a:Addr}{cs:List Value}(h:Cs β.heap a cs):Knows β L (fun h=>Cs h a cs):=Knows.of_base (Cs.mono _ _) h
section
variable {P:Program}{ro:Option Nat}{n:Nat}{ds:List Deferred}{β:Base}{Q:Exit→Act→World→Prop}{f g:Fm}{L L' M:List Res}{ops:Array Oper}{rest:List Oper}
variable {d:Nat}{op:Op}{ty:TypeId}{ps:String}{af:Array Edge}{v:Value}{gd:Option (Nat×Bool)}
theorem lv(h:EV P β L f ⟨some d,op,ty,ps,af,none⟩ v)(k:RunL P ro n ds β ops Q rest (upd f d v) L)(hn:Nat.blt d n=true:=by rfl):RunL P ro n ds β ops Q (⟨some d,op,ty,ps,af,none⟩::rest) f L:=l_val rfl rfl hn h k
theorem lu(h:MU P β L f ⟨none,op,ty,ps,af,none⟩ L')(k:RunL P ro n ds β ops Q rest f L'):RunL P ro n ds β ops Q (⟨none,op,ty,ps,af,none⟩::rest) f L:=l_mu rfl rfl h k
theorem f_pi{e:Exit}(ix:List Nat)(m:Nat)(hm:L.length=m)(h:(List.range m).isPerm ix=true)(k:Fin n ds β Q e f (ix.filterMap (L[·]?))):Fin n ds β Q e f L:=f_perm (perm_ix ix m hm h rfl) k
theorem c_pi{c:Code}(ix:List Nat)(m:Nat)(hm:L.length=m)(h:(List.range m).isPerm ix=true)(k:RunC P ro n ds β c Q f (ix.filterMap (L[·]?))):RunC P ro n ds β c Q f L:=c_perm (perm_ix ix m hm h rfl) k
theorem lnf{y:Code}(h:RunC P ro n ds β y Q f L):RunL P ro n ds β ops (Exit.then (y.wpIn (Fe ro) 3 P Q) Q) [] f L:=l_nil (f_then h)
theorem csr{id:Nat}{l:List Oper}{y:Code}(h:RunL P ro n ds β l.toArray (Exit.then (y.wpIn (Fe ro) 3 P Q) Q) l f L):RunC P ro n ds β (.seq (.region id l.toArray false) y) Q f L:=c_seq (c_region h)
theorem lnc{id:Nat}{l:List Oper}{y:Code}(h:RunL P ro n ds β l.toArray (Exit.then (y.wpIn (Fe ro) 3 P Q) Q) l f L):RunL P ro n ds β ops (Exit.then ((Code.seq (.region id l.toArray false) y).wpIn (Fe ro) 3 P Q) Q) [] f L:=lnf (csr h)
theorem lnr{id:Nat}{l:List Oper}(h:RunL P ro n ds β l.toArray Q l f L):RunL P ro n ds β ops (Exit.then ((Code.region id l.toArray false).wpIn (Fe ro) 3 P Q) Q) [] f L:=lnf (c_region h)
theorem ftc{e:Exit→Act→World→Prop}{id:Nat}{l:List Oper}{y:Code}(h:RunL P ro n ds β l.toArray (Exit.then (y.wpIn (Fe ro) 3 P e) e) l f L):Fin n ds β (Exit.then ((Code.seq (.region id l.toArray false) y).wpIn (Fe ro) 3 P e) e) .normal f L:=f_then (csr h)
theorem fts{x y:Code}(h:RunC P ro n ds β x (Exit.then (y.wpIn (Fe ro) 3 P Q) Q) f L):Fin n ds β (Exit.then ((Code.seq x y).wpIn (Fe ro) 3 P Q) Q) .normal f L:=f_then (c_seq h)
theorem ftr(h:Fin n ds β Q .ret f L):Fin n ds β (Exit.then (Code.ret.wpIn (Fe ro) 3 P Q) Q) .normal f L:=f_then (c_ret h)
theorem csk{y:Code}(h:RunC P ro n ds β y Q f L):RunC P ro n ds β .skip (Exit.then (y.wpIn (Fe ro) 3 P Q) Q) f L:=c_skip (f_then h)
theorem cs2{x y z:Code}(h:RunC P ro n ds β x (Exit.then (y.wpIn (Fe ro) 3 P (Exit.then (z.wpIn (Fe ro) 3 P Q) Q)) (Exit.then (z.wpIn (Fe ro) 3 P Q) Q)) f L):RunC P ro n ds β (.seq (.seq x y) z) Q f L:=c_seq (c_seq h)
theorem cl0{d:Option Tmp}{c:Operand}{xs:List Operand}{ts:Array TypeId}{g:FuncId}{vs:List Value}(hg:cfB P g=true)(hx:ev f c= .func (.func g) #[] #[])(ha:xs.map (ev f)=vs):CL P f ⟨d,.call ⟨.value c,xs.toArray,ts⟩,ty,ps,af,gd⟩ g vs.toArray:=
 cl_value (fst:=[]) (cap:=[]) hg hx ha (by simp)
theorem lcf{g:FuncId}{args:Array Value}(he:CL P f ⟨some d,op,ty,ps,af,none⟩ g args)(hn:Nat.blt d n=true)
 (hc:∀w β1,Sub β.heap β1.heap→(∀F,Knows β L F→F β1.heap)→St β1 [] w→(∀L' w',St β1 L' w'→St β (L'++L) w')→Calls P g args w fun e w'=>∃v,e= .returned v∧∃L',St β L' w'∧RunL P ro n ds β ops Q rest (upd f d v) L'):
  RunL P ro n ds β ops Q (⟨some d,op,ty,ps,af,none⟩::rest) f L:=l_call rfl rfl hn he fun w hw=>by
 obtain⟨β1,sb,kn,hw1,back⟩:=St.frame_all hw
 exact hc w β1 sb kn hw1 back
theorem obv{k:Fm→Prop}{out:Fm→List Res}(e:g=f)(hk:k (upd f d v))(h:EV P β L' g ⟨some d,op,ty,ps,af,none⟩ v)(hp:L'.Perm (out (upd f d v)++M))(hL:L=L')(hn:Nat.blt d n=true:=by rfl):
  RunL P ro n ds β ops (Qn (Owes n ds β (some d) k f out M)) [⟨some d,op,ty,ps,af,none⟩] f L:=ob_start hL e (l_val rfl rfl hn h (l_nil (f_owes_d e hk hp)))
theorem ob0{k:Fm→Prop}{out:Fm→List Res}(e:g=f)(hk:k (upd f d v))(h:EV P β M g ⟨some d,op,ty,ps,af,none⟩ v)(hp:M.Perm (out (upd f d v)++M))(hL:L=M:=by rfl)(hn:Nat.blt d n=true:=by rfl):
  RunL P ro n ds β ops (Qn (Owes n ds β (some d) k f out M)) [⟨some d,op,ty,ps,af,none⟩] f L:=obv e hk h hp hL hn
theorem obg{j x:Nat}{b:Bool}{k:Fm→Prop}{out:Fm→List Res}(e:g=f)(h:EV P β L' g ⟨some d,op,ty,ps,af,some (j,b)⟩ v)(ho:(ops[j]?).bind (·.dst)=some x)(hf:g x= .bool b)(hn:Nat.blt d n=true)(hk:k (upd f d v))(hp:L'.Perm (out (upd f d v)++M))(hL:L=L'):
  RunL P ro n ds β ops (Qn (Owes n ds β (some d) k f out M)) [⟨some d,op,ty,ps,af,some (j,b)⟩] f L:=ob_start hL e (g_val rfl ho hf rfl hn h (l_nil (f_owes_d e hk hp)))
end
end Go.Sl
namespace Go.Sl
theorem run_getM{P:Program}{w:World}{r:Nat}{es:Array MapEntry}{clock:Nat}(hb:w.heap[r]? =some (.map es clock)):(getObj r).run P w= .ok (.map es clock) w:=by
 simp[getObj,Sem.run,hb]
theorem run_setM{P:Program}{w:World}{r:Nat}{es:Array MapEntry}{clock:Nat}(o:Obj)(hb:w.heap[r]? =some (.map es clock)):(setObj r o).run P w= .ok () {w with heap:=w.heap.setIfInBounds r o}:=by
 simp[setObj,Sem.run,hb]
structure Key(κ:Type) where
 dec:DecidableEq κ
 enc:κ→Value
 d:TypeDesc
 same:∀a b,Instr.sameNow d (enc a) (enc b)=some (decide (a=b))
 bits:∀a,Instr.sameBits 10000 (enc a) (enc a)=true
 chk:∀(P:Program) (t:Nat),P.underlying t=some d→∀e a w,(Instr.checkKey e 10000 t (enc a)).run P w= .ok () w
section
variable {κ:Type}(K:Key κ)
def mapC(ks:List (κ×Value))(es:Array MapEntry):Prop:=es.toList.map (fun e=>(e.key,e.val))=ks.map fun p=>(K.enc p.1,p.2)
def mapR(b:Nat)(ks:List (κ×Value)):Res:=fun h=>∃es clock,h b=some (.map es clock)∧mapC K ks es
theorem mapR.mono(b:Nat)(ks:List (κ×Value)):Mono (mapR K b ks):=fun _ _ hs ⟨es,c,h,k⟩=>⟨es,c,hs _ _ h,k⟩
variable {P:Program}{ro:Option Nat}{n:Nat}{ds:List Deferred}{β:Base}{Q:Exit→Act→World→Prop}{f:Fm}{L:List Res}{ops:Array Oper}{rest:List Oper}
variable {d:Option Tmp}{ty:TypeId}{ps:String}{af:Array Edge}{g:Option (Nat×Bool)}
end
end Go.Sl
namespace Go.Sl
class TyC (P:Program) (t:TypeId) (agg:outParam Bool) (n:outParam Nat):Prop where ok:tyB P t agg n=true:=by kernel_rfl
class FldC (P:Program) (s k:Nat) (off n:outParam Nat) (agg:outParam Bool):Prop where ok:fldB P s k off n agg=true:=by kernel_rfl
class UndC (P:Program) (t:TypeId) (e:outParam TypeId):Prop where ok:P.underlying t=some (.slice e):=by kernel_rfl
class ZerC (P:Program) (t:Nat) (z:outParam Value):Prop where ok:(P.info? t).bind (·.zero)=some z:=by kernel_rfl
class CfC (P:Program) (g:FuncId):Prop where ok:cfB P g=true:=by kernel_rfl
class ArrC (P:Program) (t:Nat) (len e n:outParam Nat):Prop where ok:arB P t len e n=true:=by kernel_rfl
section
variable {P:Program}{β:Base}{f:Fm}{L:List Res}{d:Option Tmp}{ty:TypeId}{ps:String}{af:Array Edge}{g:Option (Nat×Bool)}{x y:Operand}
theorem omi{k:IntKind}{a:Int}(hx:ev f x= .int k a:=by first|rfl|assumption):EV P β L f ⟨d,.move x,ty,ps,af,g⟩ (.int k a):=hx▸e_move
theorem oai{k:IntKind}{a:Int}(hx:ev f x= .int k a:=by first|rfl|assumption):EV P β L f ⟨d,.assign x,ty,ps,af,g⟩ (.int k a):=hx▸e_assign
theorem omb{c:Bool}(hx:ev f x= .bool c:=by first|rfl|assumption):EV P β L f ⟨d,.move x,ty,ps,af,g⟩ (.bool c):=hx▸e_move
theorem oab{c:Bool}(hx:ev f x= .bool c:=by first|rfl|assumption):EV P β L f ⟨d,.assign x,ty,ps,af,g⟩ (.bool c):=hx▸e_assign
theorem omp{q:Option Addr}(hx:ev f x= .pointer q:=by first|rfl|assumption):EV P β L f ⟨d,.move x,ty,ps,af,g⟩ (.pointer q):=hx▸e_move
theorem oap{q:Option Addr}(hx:ev f x= .pointer q:=by first|rfl|assumption):EV P β L f ⟨d,.assign x,ty,ps,af,g⟩ (.pointer q):=hx▸e_assign
theorem oms{q:Option Addr}{i j:Nat}(hx:ev f x= .slice q i j:=by first|rfl|assumption):EV P β L f ⟨d,.move x,ty,ps,af,g⟩ (.slice q i j):=hx▸e_move
theorem oas{q:Option Addr}{i j:Nat}(hx:ev f x= .slice q i j:=by first|rfl|assumption):EV P β L f ⟨d,.assign x,ty,ps,af,g⟩ (.slice q i j):=hx▸e_assign
theorem omt{vs:Array Value}(hx:ev f x= .tuple vs:=by first|rfl|assumption):EV P β L f ⟨d,.move x,ty,ps,af,g⟩ (.tuple vs):=hx▸e_move
theorem omf{fn:Fn}{vs us:Array Value}(hx:ev f x= .func fn vs us:=by first|rfl|assumption):EV P β L f ⟨d,.move x,ty,ps,af,g⟩ (.func fn vs us):=hx▸e_move
theorem oaf{fn:Fn}{vs us:Array Value}(hx:ev f x= .func fn vs us:=by first|rfl|assumption):EV P β L f ⟨d,.assign x,ty,ps,af,g⟩ (.func fn vs us):=hx▸e_assign
theorem oktb{c:Bool}{c0:Operand}(hc:ev f c0= .bool true:=by first|rfl|assumption)(hx:ev f x= .bool c:=by first|rfl|assumption):EV P β L f ⟨d,.pick c0 x y,ty,ps,af,g⟩ (.bool c):=hx▸e_pick_t hc
theorem okfb{c:Bool}{c0:Operand}(hc:ev f c0= .bool false:=by first|rfl|assumption)(hx:ev f y= .bool c:=by first|rfl|assumption):EV P β L f ⟨d,.pick c0 x y,ty,ps,af,g⟩ (.bool c):=hx▸e_pick_f hc
theorem ofp{s k off m:Nat}{ag:Bool}{b o:Nat}[h:FldC P s k off m ag](hx:ev f x= .pointer (some ⟨b,o,none⟩):=by first|rfl|assumption):EV P β L f ⟨d,.fieldAddr s x k,ty,ps,af,g⟩ (.pointer (some ⟨b,o+off,none⟩)):=e_fieldPt hx h.ok
theorem ofa{s k off m:Nat}{ag:Bool}{a:Addr}[h:FldC P s k off m ag](hx:ev f x= .pointer (some a):=by first|rfl|assumption):EV P β L f ⟨d,.fieldAddr s x k,ty,ps,af,g⟩ (.pointer (some (a.add off))):=e_fieldAddr hx h.ok
theorem oln{a:Option Addr}{m c:Nat}{t e:TypeId}[h:UndC P t e](hx:ev f x= .slice a m c:=by first|rfl|assumption):EV P β L f ⟨d,.call ⟨.builtin .len,#[x],#[t]⟩,ty,ps,af,g⟩ (.int .i64 (m:Int)):=e_len hx h.ok
theorem onp{a:Addr}(hx:ev f x= .pointer (some a):=by first|rfl|assumption):EV P β L f ⟨d,.nilCheck x,ty,ps,af,g⟩ (.pointer (some a)):=e_nil hx
theorem oli{t b o:Nat}{cs:Array Value}{T:TypeId}{fr:Nat×Nat}{k:IntKind}{a:Int}[h:TyC P t false 1](i0:Nat)(hx:ev f x= .pointer (some ⟨b,o,none⟩):=by first|rfl|assumption)(hi:L[i0]? =some (pt b (.cells cs T fr)):=by rfl)(hv:(cs.toList.drop o).take 1=[.int k a]:=by rfl):EV P β L f ⟨d,.load t x,ty,ps,af,g⟩ (.int k a):=e_load1 h.ok hx (k_pt i0 hi hv)
theorem olb{t b o:Nat}{cs:Array Value}{T:TypeId}{fr:Nat×Nat}{c:Bool}[h:TyC P t false 1](i0:Nat)(hx:ev f x= .pointer (some ⟨b,o,none⟩):=by first|rfl|assumption)(hi:L[i0]? =some (pt b (.cells cs T fr)):=by rfl)(hv:(cs.toList.drop o).take 1=[.bool c]:=by rfl):EV P β L f ⟨d,.load t x,ty,ps,af,g⟩ (.bool c):=e_load1 h.ok hx (k_pt i0 hi hv)
theorem olp{t b o:Nat}{cs:Array Value}{T:TypeId}{fr:Nat×Nat}{q:Option Addr}[h:TyC P t false 1](i0:Nat)(hx:ev f x= .pointer (some ⟨b,o,none⟩):=by first|rfl|assumption)(hi:L[i0]? =some (pt b (.cells cs T fr)):=by rfl)(hv:(cs.toList.drop o).take 1=[.pointer q]:=by rfl):EV P β L f ⟨d,.load t x,ty,ps,af,g⟩ (.pointer q):=e_load1 h.ok hx (k_pt i0 hi hv)
theorem ols{t b o:Nat}{cs:Array Value}{T:TypeId}{fr:Nat×Nat}{q:Option Addr}{i j:Nat}[h:TyC P t false 1](i0:Nat)(hx:ev f x= .pointer (some ⟨b,o,none⟩):=by first|rfl|assumption)(hi:L[i0]? =some (pt b (.cells cs T fr)):=by rfl)(hv:(cs.toList.drop o).take 1=[.slice q i j]:=by rfl):EV P β L f ⟨d,.load t x,ty,ps,af,g⟩ (.slice q i j):=e_load1 h.ok hx (k_pt i0 hi hv)
theorem olg{t b o:Nat}{cs:Array Value}{T:TypeId}{fr:Nat×Nat}{m:Nat}{us:List Value}[h:TyC P t true m](i0:Nat)(hx:ev f x= .pointer (some ⟨b,o,none⟩):=by first|rfl|assumption)(hi:L[i0]? =some (pt b (.cells cs T fr)):=by rfl)(hv:(cs.toList.drop o).take m=us:=by rfl)(hl:us.length=m:=by rfl):EV P β L f ⟨d,.load t x,ty,ps,af,g⟩ (.agg us.toArray):=e_load h.ok hx (k_pt i0 hi (by rw[hl];exact hv)) hl
theorem olt{t t':TypeId}{k:IntKind}{a b:Int}(hx:ev f x= .int k a:=by first|rfl|assumption)(hy:ev f y= .int k b:=by first|rfl|assumption):EV P β L f ⟨d,.binOp .lss t x y t',ty,ps,af,g⟩ (.bool (decide (a<b))):=e_lss hx hy
theorem ole{t t':TypeId}{k:IntKind}{a b:Int}(hx:ev f x= .int k a:=by first|rfl|assumption)(hy:ev f y= .int k b:=by first|rfl|assumption):EV P β L f ⟨d,.binOp .leq t x y t',ty,ps,af,g⟩ (.bool (decide (a≤b))):=e_leq hx hy
theorem ogt{t t':TypeId}{k:IntKind}{a b:Int}(hx:ev f x= .int k a:=by first|rfl|assumption)(hy:ev f y= .int k b:=by first|rfl|assumption):EV P β L f ⟨d,.binOp .gtr t x y t',ty,ps,af,g⟩ (.bool (decide (b<a))):=e_gtr hx hy
theorem oge{t t':TypeId}{k:IntKind}{a b:Int}(hx:ev f x= .int k a:=by first|rfl|assumption)(hy:ev f y= .int k b:=by first|rfl|assumption):EV P β L f ⟨d,.binOp .geq t x y t',ty,ps,af,g⟩ (.bool (decide (b≤a))):=e_geq hx hy
theorem oeq_{t t':TypeId}{k:IntKind}{a b:Int}(hx:ev f x= .int k a:=by first|rfl|assumption)(hy:ev f y= .int k b:=by first|rfl|assumption):EV P β L f ⟨d,.binOp .eql t x y t',ty,ps,af,g⟩ (.bool (decide (a=b))):=e_eql hx hy
theorem onq{t t':TypeId}{k:IntKind}{a b:Int}(hx:ev f x= .int k a:=by first|rfl|assumption)(hy:ev f y= .int k b:=by first|rfl|assumption):EV P β L f ⟨d,.binOp .neq t x y t',ty,ps,af,g⟩ (.bool (decide (a≠b))):=e_neq hx hy
theorem opl{t t':TypeId}{a b:Int}(hx:ev f x= .int .i64 a:=by first|rfl|assumption)(hy:ev f y= .int .i64 b:=by first|rfl|assumption)(h: -9223372036854775808≤a+b∧a+b≤9223372036854775807:=by omega):EV P β L f ⟨d,.binOp .add t x y t',ty,ps,af,g⟩ (.int .i64 (a+b)):=e_add hx hy (i64w h)
theorem omn{t t':TypeId}{a b:Int}(hx:ev f x= .int .i64 a:=by first|rfl|assumption)(hy:ev f y= .int .i64 b:=by first|rfl|assumption)(h: -9223372036854775808≤a-b∧a-b≤9223372036854775807:=by omega):EV P β L f ⟨d,.binOp .sub t x y t',ty,ps,af,g⟩ (.int .i64 (a-b)):=e_sub hx hy (i64w h)
theorem opn{t t':TypeId}{a b:Nat}(hx:ev f x= .int .i64 (a:Int):=by rfl)(hy:ev f y= .int .i64 (b:Int):=by rfl)(h:a+b≤9223372036854775807:=by omega):EV P β L f ⟨d,.binOp .add t x y t',ty,ps,af,g⟩ (.int .i64 ((a+b:Nat):Int)):=e_add hx hy (i64n (by omega) h)
theorem ont{t:Nat}{c:Bool}(hx:ev f x= .bool c:=by first|rfl|assumption):EV P β L f ⟨d,.unOp .not t x,ty,ps,af,g⟩ (.bool (!c)):=e_not hx
theorem ond{t:Nat}{p:Prop}[Decidable p](hx:ev f x= .bool (decide p):=by first|rfl|assumption):EV P β L f ⟨d,.unOp .not t x,ty,ps,af,g⟩ (.bool (decide ¬p)):=e_not_p hx
theorem omx{k:IntKind}{a b:Int}{ts:Array TypeId}(hx:ev f x= .int k a:=by first|rfl|assumption)(hy:ev f y= .int k b:=by first|rfl|assumption):EV P β L f ⟨d,.call ⟨.builtin .max,#[x,y],ts⟩,ty,ps,af,g⟩ (.int k (max a b)):=e_max hx hy
theorem omz{k:IntKind}{a b:Int}{ts:Array TypeId}(hx:ev f x= .int k a:=by first|rfl|assumption)(hy:ev f y= .int k b:=by first|rfl|assumption):EV P β L f ⟨d,.call ⟨.builtin .min,#[x,y],ts⟩,ty,ps,af,g⟩ (.int k (min a b)):=e_min hx hy
theorem oxi{us':Array Value}{i':Nat}{k:IntKind}{a:Int}(hx:ev f x= .tuple us':=by first|rfl|assumption)(hv:us'[i']? =some (.int k a):=by rfl):EV P β L f ⟨d,.extract x i',ty,ps,af,g⟩ (.int k a):=e_extract hx hv
theorem oxb{us':Array Value}{i':Nat}{c:Bool}(hx:ev f x= .tuple us':=by first|rfl|assumption)(hv:us'[i']? =some (.bool c):=by rfl):EV P β L f ⟨d,.extract x i',ty,ps,af,g⟩ (.bool c):=e_extract hx hv
theorem oxp{us':Array Value}{i':Nat}{q:Option Addr}(hx:ev f x= .tuple us':=by first|rfl|assumption)(hv:us'[i']? =some (.pointer q):=by rfl):EV P β L f ⟨d,.extract x i',ty,ps,af,g⟩ (.pointer q):=e_extract hx hv
theorem oxs{us':Array Value}{i':Nat}{q:Option Addr}{i j:Nat}(hx:ev f x= .tuple us':=by first|rfl|assumption)(hv:us'[i']? =some (.slice q i j):=by rfl):EV P β L f ⟨d,.extract x i',ty,ps,af,g⟩ (.slice q i j):=e_extract hx hv
theorem oxa{us':Array Value}{i':Nat}{vs:Array Value}(hx:ev f x= .tuple us':=by first|rfl|assumption)(hv:us'[i']? =some (.agg vs):=by rfl):EV P β L f ⟨d,.extract x i',ty,ps,af,g⟩ (.agg vs):=e_extract hx hv
end
section
variable {P:Program}{ro:Option Nat}{n:Nat}{ds:List Deferred}{β:Base}{Q:Exit→Act→World→Prop}{f:Fm}{L:List Res}{ops:Array Oper}{rest:List Oper}
variable {d:Nat}{op:Op}{ty:TypeId}{ps:String}{af:Array Edge}{v:Value}
theorem lE(h:EV P β L f ⟨some d,op,ty,ps,af,none⟩ v)(k:RunL P ro n ds β ops Q rest (upd f d v) L)(hn:Nat.blt d n=true:=by rfl):RunL P ro n ds β ops Q (⟨some d,op,ty,ps,af,none⟩::rest) f L:=l_val rfl rfl hn h k
theorem qE(h:EV P β L f ⟨some d,op,ty,ps,af,none⟩ v)(k:RunQ P n ds β ops Q rest (upd f d v) L)(hn:Nat.blt d n=true:=by rfl):RunQ P n ds β ops Q (⟨some d,op,ty,ps,af,none⟩::rest) f L:=q_val rfl rfl hn h k
theorem gE{j e:Nat}{b:Bool}(h:EV P β L f ⟨some d,op,ty,ps,af,some (j,b)⟩ v)(k:RunL P ro n ds β ops Q rest (upd f d v) L)(ho:(ops[j]?).bind (·.dst)=some e:=by rfl)(hf:f e= .bool b:=by rfl)(hn:Nat.blt d n=true:=by rfl):RunL P ro n ds β ops Q (⟨some d,op,ty,ps,af,some (j,b)⟩::rest) f L:=g_val rfl ho hf rfl hn h k
theorem rE{j e:Nat}{b:Bool}(h:EV P β L f ⟨some d,op,ty,ps,af,some (j,b)⟩ v)(k:RunQ P n ds β ops Q rest (upd f d v) L)(ho:(ops[j]?).bind (·.dst)=some e:=by rfl)(hf:f e= .bool b:=by rfl)(hn:Nat.blt d n=true:=by rfl):RunQ P n ds β ops Q (⟨some d,op,ty,ps,af,some (j,b)⟩::rest) f L:=qg_val rfl ho hf rfl hn h k
theorem clA{d:Option Tmp}{c:Operand}{xs:List Operand}{ts:Array TypeId}{g:FuncId}{vs:List Value}[h:CfC P g](hx:ev f c= .func (.func g) #[] #[]:=by rfl)(ha:xs.map (ev f)=vs:=by rfl):CL P f ⟨d,.call ⟨.value c,xs.toArray,ts⟩,ty,ps,af,none⟩ g vs.toArray:=cl0 h.ok hx ha
theorem lcR{g:FuncId}{args:Array Value}{u:Value}(he:CL P f ⟨some d,op,ty,ps,af,none⟩ g args)(hc:∀w β1,Sub β.heap β1.heap→(∀F,Knows β L F→F β1.heap)→St β1 [] w→Calls P g args w fun r w'=>r= .returned u∧St β1 [] w')(k:RunL P ro n ds β ops Q rest (upd f d u) L)(hn:Nat.blt d n=true:=by rfl):
  RunL P ro n ds β ops Q (⟨some d,op,ty,ps,af,none⟩::rest) f L:=lcf he hn fun w β1 sb kn hw1 back=>(hc w β1 sb kn hw1).mono fun e w' ⟨h1,h2⟩=>⟨u,h1,L,back [] w' h2,k⟩
theorem getx{α:Type}(l:List α)(k:Nat)(h:k<l.length):∃x,l[k]? =some x:=⟨_,List.getElem?_eq_getElem h⟩
theorem alE{t:Nat}{z:Value}[h:ZerC P t z](k:∀b:Nat,RunL P ro n ds β ops Q rest (upd f d (.pointer (some ⟨b,0,none⟩))) (pt b (.cells z.cells t)::L))(hn:Nat.blt d n=true:=by rfl):RunL P ro n ds β ops Q (⟨some d,.alloc t,ty,ps,af,none⟩::rest) f L:=
 l_mv rfl rfl hn (m_alloc h.ok) fun v L' ⟨b,h1,h2⟩=>by subst h1;subst h2;exact k b
theorem skE{j e:Nat}{b b':Bool}(k:RunL P ro n ds β ops Q rest (upd f d undef) L)(ho:(ops[j]?).bind (·.dst)=some e:=by rfl)(hf:f e= .bool b:=by rfl)(hb:(b==b')=false:=by rfl)(hn:Nat.blt d n=true:=by rfl):RunL P ro n ds β ops Q (⟨some d,op,ty,ps,af,some (j,b')⟩::rest) f L:=l_skip rfl ho hf hb rfl hn k
theorem qsE{j e:Nat}{b b':Bool}(k:RunQ P n ds β ops Q rest (upd f d undef) L)(ho:(ops[j]?).bind (·.dst)=some e:=by rfl)(hf:f e= .bool b:=by rfl)(hb:(b==b')=false:=by rfl)(hn:Nat.blt d n=true:=by rfl):RunQ P n ds β ops Q (⟨some d,op,ty,ps,af,some (j,b')⟩::rest) f L:=q_skip rfl ho hf hb rfl hn k
theorem obE{M:List Res}{k:Fm→Prop}{out:Fm→List Res}(h:EV P β L f ⟨some d,op,ty,ps,af,none⟩ v)(hk:k (upd f d v):=by rfl)(hp:L.Perm (out (upd f d v)++M):=by first|exact List.Perm.refl _|exact perm_front 0 rfl)(hn:Nat.blt d n=true:=by rfl):
  RunL P ro n ds β ops (Qn (Owes n ds β (some d) k f out M)) [⟨some d,op,ty,ps,af,none⟩] f L:=obv rfl hk h hp rfl hn
theorem obG{M:List Res}{j e:Nat}{b:Bool}{k:Fm→Prop}{out:Fm→List Res}(h:EV P β L f ⟨some d,op,ty,ps,af,some (j,b)⟩ v)(ho:(ops[j]?).bind (·.dst)=some e:=by rfl)(hf:f e= .bool b:=by first|rfl|assumption)(hk:k (upd f d v):=by rfl)(hp:L.Perm (out (upd f d v)++M):=by first|exact List.Perm.refl _|exact perm_front 0 rfl)(hn:Nat.blt d n=true:=by rfl):
  RunL P ro n ds β ops (Qn (Owes n ds β (some d) k f out M)) [⟨some d,op,ty,ps,af,some (j,b)⟩] f L:=obg rfl h ho hf hn hk hp rfl
theorem bxi{t:Nat}{x:Operand}{k:IntKind}{a:Int}(k':∀b0:Nat,RunL P ro n ds β ops Q rest (upd f d (.pointer (some ⟨b0,0,none⟩))) (pt b0 (.cells (Value.cells (.int k a)) t)::L))(hx:ev f x= .int k a:=by rfl)(hn:Nat.blt d n=true:=by rfl):RunL P ro n ds β ops Q (⟨some d,.box t x,ty,ps,af,none⟩::rest) f L:=
 l_mv rfl rfl hn (m_box hx) fun v L' ⟨b0,h1,h2⟩=>by subst h1;subst h2;exact k' b0
theorem bxp{t:Nat}{x:Operand}{q:Option Addr}(k':∀b0:Nat,RunL P ro n ds β ops Q rest (upd f d (.pointer (some ⟨b0,0,none⟩))) (pt b0 (.cells (Value.cells (.pointer q)) t)::L))(hx:ev f x= .pointer q:=by rfl)(hn:Nat.blt d n=true:=by rfl):RunL P ro n ds β ops Q (⟨some d,.box t x,ty,ps,af,none⟩::rest) f L:=
 l_mv rfl rfl hn (m_box hx) fun v L' ⟨b0,h1,h2⟩=>by subst h1;subst h2;exact k' b0
theorem bxs{t:Nat}{x:Operand}{q:Option Addr}{i j:Nat}(k':∀b0:Nat,RunL P ro n ds β ops Q rest (upd f d (.pointer (some ⟨b0,0,none⟩))) (pt b0 (.cells (Value.cells (.slice q i j)) t)::L))(hx:ev f x= .slice q i j:=by rfl)(hn:Nat.blt d n=true:=by rfl):RunL P ro n ds β ops Q (⟨some d,.box t x,ty,ps,af,none⟩::rest) f L:=
 l_mv rfl rfl hn (m_box hx) fun v L' ⟨b0,h1,h2⟩=>by subst h1;subst h2;exact k' b0
theorem bxa{t:Nat}{x:Operand}{vs:Array Value}(k':∀b0:Nat,RunL P ro n ds β ops Q rest (upd f d (.pointer (some ⟨b0,0,none⟩))) (pt b0 (.cells (Value.cells (.agg vs)) t)::L))(hx:ev f x= .agg vs:=by rfl)(hn:Nat.blt d n=true:=by rfl):RunL P ro n ds β ops Q (⟨some d,.box t x,ty,ps,af,none⟩::rest) f L:=
 l_mv rfl rfl hn (m_box hx) fun v L' ⟨b0,h1,h2⟩=>by subst h1;subst h2;exact k' b0
end
end Go.Sl
