/-
  Own work; plain Lean (HvMain, HvOpnT).
-/
import Derived.Test.YtmhlglginimmnaaGreatDoorHv37
import Derived.OpenShut
set_option linter.all false
namespace Go.Hv
open Go Go.Sl Go.Proofs Go.Jn
structure KStp where
 kind:UInt8
 nn:UInt8
 aa:UInt8
 bb:UInt8
 pw:UInt16
abbrev StpF:Fl KStp:=⟨5,fun x=>[Bx x.kind,Bx x.nn,Bx x.aa,Bx x.bb,.int .u16 ((x.pw.toNat:Nat):Int)],fun _=>rfl,fun _=>rfl,by decide⟩
theorem sat_emp{r:Res}{L:List Res}{a:PHeap}(h:r fun _=>none)(hL:Sat L a):Sat (r::L) a:=⟨fun _=>none,a,fun _=> .inl rfl,fun _ _ h=>(by cases h),Sub.refl _,h,hL⟩
theorem fresh_shelf{S k:Nat}(hk:k<6)(a:PHeap)(h:pt S (.cells #[.slice none 0 0,.slice none 0 0,.slice none 0 0,.int .i64 0] 60) a):shelfR S (freshG (ix k)) 0 false a:=by
 refine⟨⟨0,0,[],[],0⟩,⟨[],[],[],0⟩,sok_fresh (by decide) ⟨by show 1≤((k+1:Nat):Int);omega,by show((k+1:Nat):Int)≤6;omega⟩,fun q=>(by cases q),?_⟩
 refine⟨none,none,none,0,0,0,a,fun _=>none,fun _=> .inr rfl,Sub.refl _,fun _ _ h=>(by cases h),h,?_⟩
 exact sat_emp (row_nil _ _ _) (sat_emp (row_nil _ _ _) (sat_emp (row_nil _ _ _) trivial))
theorem msgs_nil:msgsR none 0 [] fun _=>none:=⟨[],rfl,fun z h=>(by cases h),sat_emp (row_nil _ _ _) (sat_emp poolR_nil trivial)⟩
theorem tok_start:TOk (freshN 3) zero7 0:=by
 refine⟨net_fresh (by decide),fun a ha=>by rw[gt_fresh ha];exact Nat.le_refl _,fun id h1 h2=> .inl ⟨zero7_at _,fun a ha=> ?_⟩⟩
 rw[gt_fresh ha]
 exact⟨fun f h=>(by cases h),fun m h=>(by cases h)⟩
theorem netL_weak{N:Nat}:∀{Gs Ss:List Nat} {Xs:List KG} {a:PHeap},Sat (netL Gs Ss Xs N true) a→Sat (netL Gs Ss Xs N false) a
 |G::Gs,S::Ss,X::Xs,a,h=>by
  obtain⟨b,c,hd,h1,h2,h3,h4⟩:=h
  exact⟨b,c,hd,h1,h2,gate_weak b h3,netL_weak h4⟩
 |[],_,_,_,_=>trivial
 |_::_,[],_,_,_=>trivial
 |_::_,_::_,[],_,_=>trivial
theorem tok_rest{Xs Zs:List KG}{tg:KN7}{i p:Nat}(h:TOk Xs tg i)(hp:Passes 3 Xs (p+2) Zs):TOk Zs tg i∧Quiet 3 Zs:=by
 obtain⟨hn,fl⟩:=Passes.net h.net hp
 have hq:=hp.quiet' h.net
 exact⟨tok_flow h hn fl fun a ha=>by rw[hq a ha];exact Nat.zero_le _,hq⟩
theorem start3(S0 S1 S2:Nat):∀k,k<3→(((none3.upd 0 (some S0)).upd 1 (some S1)).upd 2 (some S2)).at k=[S0,S1,S2][k]? :=fun k hk=>by rcases three hk with rfl|rfl|rfl<;>rfl
theorem open3{gs:P3}{Gs:List Nat}{A B C:Nat}(h1:Gs.length=3):∀k,k<3→(((gs.upd 0 (some A)).upd 1 (some B)).upd 2 (some C)).at k=(((Gs.set 0 A).set 1 B).set 2 C)[k]? :=fun k hk=>by
 obtain⟨a,b,c,rfl⟩:=list3 h1
 rcases three hk with rfl|rfl|rfl<;>rfl
end Go.Hv
namespace Go.Proofs
open Go Go.Sl Go.Hv
open Go.ChangeShapes Go.ChangeAt Go.RowKit
theorem c51:Tryz.prog.cellsOf 51=1:=by kernel_rfl
theorem c63:Tryz.prog.cellsOf 63=5:=by kernel_rfl
theorem u16_any{n:Int}(h:(Lit.int .u16 n).wf=true):∃y:UInt16,Value.int .u16 n= .int .u16 ((y.toNat:Nat):Int):=by
 have hb:IntKind.u16.min≤n∧n≤IntKind.u16.max:=by simpa only[Lit.wf,Bool.and_eq_true,decide_eq_true_eq]using h
 have h1:(0:Int)≤n:=hb.1
 have h2:n≤65535:=hb.2
 refine⟨UInt16.ofNat n.toNat,?_⟩
 have h3:(UInt16.ofNat n.toNat).toNat=n.toNat:=by simp;omega
 rw[h3,Int.toNat_of_nonneg h1]
set_option maxRecDepth 100000 in
theorem reads_step:Reads Tryz.prog StpF.R QAny 63:=by
 intro H enc w base spare held fuel cs x h
 obtain⟨xs,n,_,rfl,hl,hlen,hf⟩:=DataW.trod_struct Tryz.underlying63 h
 rw[c63]at hl
 match cs,hl,xs,hlen with
 |[a0,a1,a2,a3,a4],_,[y0,y1,y2,y3,y4],_=>
  have g0:DataW.trod enc Tryz.prog w base spare held n 5 (([a0,a1,a2,a3,a4].drop 0).take (Tryz.prog.cellsOf 5))=some y0:=hf 0 _ rfl
  rw[c5]at g0
  have g1:DataW.trod enc Tryz.prog w base spare held n 5 (([a0,a1,a2,a3,a4].drop 1).take (Tryz.prog.cellsOf 5))=some y1:=hf 1 _ rfl
  rw[c5]at g1
  have g2:DataW.trod enc Tryz.prog w base spare held n 5 (([a0,a1,a2,a3,a4].drop 2).take (Tryz.prog.cellsOf 5))=some y2:=hf 2 _ rfl
  rw[c5]at g2
  have g3:DataW.trod enc Tryz.prog w base spare held n 5 (([a0,a1,a2,a3,a4].drop 3).take (Tryz.prog.cellsOf 5))=some y3:=hf 3 _ rfl
  rw[c5]at g3
  have g4:DataW.trod enc Tryz.prog w base spare held n 51 (([a0,a1,a2,a3,a4].drop 4).take (Tryz.prog.cellsOf 51))=some y4:=hf 4 _ rfl
  rw[c51]at g4
  obtain⟨m0,e0,_,w0⟩:=DataW.trod_int (k:= .u8) Tryz.underlying5 g0
  obtain⟨m1,e1,_,w1⟩:=DataW.trod_int (k:= .u8) Tryz.underlying5 g1
  obtain⟨m2,e2,_,w2⟩:=DataW.trod_int (k:= .u8) Tryz.underlying5 g2
  obtain⟨m3,e3,_,w3⟩:=DataW.trod_int (k:= .u8) Tryz.underlying5 g3
  obtain⟨m4,e4,_,w4⟩:=DataW.trod_int (k:= .u16) Tryz.underlying51 g4
  obtain⟨k0,q0⟩:=u8_any m0 w0
  obtain⟨k1,q1⟩:=u8_any m1 w1
  obtain⟨k2,q2⟩:=u8_any m2 w2
  obtain⟨k3,q3⟩:=u8_any m3 w3
  obtain⟨k4,q4⟩:=u16_any w4
  have f0:a0=Value.int .u8 m0:=(List.cons.inj (show [a0]=[Value.int .u8 m0]from e0)).1
  have f1:a1=Value.int .u8 m1:=(List.cons.inj (show [a1]=[Value.int .u8 m1]from e1)).1
  have f2:a2=Value.int .u8 m2:=(List.cons.inj (show [a2]=[Value.int .u8 m2]from e2)).1
  have f3:a3=Value.int .u8 m3:=(List.cons.inj (show [a3]=[Value.int .u8 m3]from e3)).1
  have f4:a4=Value.int .u16 m4:=(List.cons.inj (show [a4]=[Value.int .u16 m4]from e4)).1
  subst f0;subst f1;subst f2;subst f3;subst f4
  exact⟨⟨k0,k1,k2,k3,k4⟩,by rw[q0,q1,q2,q3,q4];rfl,trivial⟩
theorem open_steps{H:Type}{enc:TypeId×Value→H}{w:World}{base:Nat}{spare:Nat→Bool}{held:Bool}{a:Option Addr}{n c:Nat}{d:DataW H}{p:List MemPlace}
 (h:∃fuel,DataW.trod enc Tryz.prog w base spare held fuel 50 (Value.slice a n c).cells.toList=some (d,p)):∃z,Sl StpF.R (ph w) (.slice a n c) z:=by
 obtain⟨fuel,hf⟩:=h
 obtain⟨ys,⟨v,hv,hs⟩,_⟩:=reads_slice Tryz.underlying50 c63 reads_step _ _ _ _ _ _ _ _ _ hf
 have e:Value.slice a n c=v:=(List.cons.inj (show [Value.slice a n c]=[v]from hv)).1
 subst e
 exact⟨ys,hs⟩
theorem agg_of_cells3{v a b c:Value}(hh:v.cells.toList=[a,b,c]):v= .agg #[a,b,c]:=by
 cases v with
 |agg cs=>
  have hh:cs.toList=[a,b,c]:=hh
  rw[show cs= #[a,b,c]from Array.toList_inj.1 hh]
 |_=>exact absurd (congrArg List.length hh) (by simp[Value.cells])
set_option maxRecDepth 100000 in
theorem open_pows{H:Type}{enc:TypeId×Value→H}{w:World}{base:Nat}{spare:Nat→Bool}{held:Bool}{v:Value}{d:DataW H}{p:List MemPlace}
 (h:∃fuel,DataW.trod enc Tryz.prog w base spare held fuel 52 v.cells.toList=some (d,p)):∃q0 q1 q2:Nat,v= .agg #[.int .u16 ((q0:Nat):Int),.int .u16 ((q1:Nat):Int),.int .u16 ((q2:Nat):Int)]∧q0≤65535∧q1≤65535∧q2≤65535:=by
 obtain⟨fuel,hf⟩:=h
 obtain⟨xs,n,_,hx,hl,hlen,hg⟩:=DataW.trod_array Tryz.underlying52 hf
 rw[show Tryz.prog.cellsOf 52=3 by kernel_rfl]at hl
 generalize hcs:v.cells.toList=cs at hl hg
 match cs,hl,xs,hlen with
 |[a0,a1,a2],_,[y0,y1,y2],_=>
  have g0:DataW.trod enc Tryz.prog w base spare held n 51 (([a0,a1,a2].drop (0*Tryz.prog.cellsOf 51)).take (Tryz.prog.cellsOf 51))=some y0:=hg 0 (by decide)
  rw[c51]at g0
  have g1:DataW.trod enc Tryz.prog w base spare held n 51 (([a0,a1,a2].drop (1*Tryz.prog.cellsOf 51)).take (Tryz.prog.cellsOf 51))=some y1:=hg 1 (by decide)
  rw[c51]at g1
  have g2:DataW.trod enc Tryz.prog w base spare held n 51 (([a0,a1,a2].drop (2*Tryz.prog.cellsOf 51)).take (Tryz.prog.cellsOf 51))=some y2:=hg 2 (by decide)
  rw[c51]at g2
  obtain⟨m0,e0,_,w0⟩:=DataW.trod_int (k:= .u16) Tryz.underlying51 g0
  obtain⟨m1,e1,_,w1⟩:=DataW.trod_int (k:= .u16) Tryz.underlying51 g1
  obtain⟨m2,e2,_,w2⟩:=DataW.trod_int (k:= .u16) Tryz.underlying51 g2
  obtain⟨k0,q0⟩:=u16_any w0
  obtain⟨k1,q1⟩:=u16_any w1
  obtain⟨k2,q2⟩:=u16_any w2
  have f0:a0=Value.int .u16 m0:=(List.cons.inj (show [a0]=[Value.int .u16 m0]from e0)).1
  have f1:a1=Value.int .u16 m1:=(List.cons.inj (show [a1]=[Value.int .u16 m1]from e1)).1
  have f2:a2=Value.int .u16 m2:=(List.cons.inj (show [a2]=[Value.int .u16 m2]from e2)).1
  have b:∀k:UInt16,k.toNat≤65535:=fun k=>by have:=k.toNat_lt;omega
  exact⟨k0.toNat,k1.toNat,k2.toNat,by rw[←q0,←q1,←q2,←f0,←f1,←f2];exact agg_of_cells3 hcs,b k0,b k1,b k2⟩
end Go.Proofs
