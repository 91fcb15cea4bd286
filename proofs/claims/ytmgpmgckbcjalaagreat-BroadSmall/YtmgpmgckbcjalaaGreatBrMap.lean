/-
 The maps of a space. Own work; plain Lean.
-/
import Derived.Test.YtmgpmgckbcjalaaGreatProg
import Derived.Test.YtmgpmgckbcjalaaGreatBrDef
import Derived.Test.YtmgpmgckbcjalaaGreatSlMp3
namespace Go.Proofs
open Go Go.Sl Go.Brd
noncomputable def ArM:MapK Tryz.prog Int KA where
 t:=70
 kt:=3
 et:=32
 dec:=inferInstance
 enc:=fun x=>Ix x
 encv:=fun a=> .agg (aC a)
 zv:=zeroA
 ht:=by kernel_rfl
 hz:=by kernel_rfl
 chk:=fun e a w=>by
  unfold Instr.checkKey
  simp only[Sem.run_bind,run_underlying (show Tryz.prog.underlying 3=some (.int .i64) by kernel_rfl),Result.andThen_ok]
  rfl
 find:=find_plain (d:= .int .i64) (by kernel_rfl) fun a b=>congrArg some (show(a==b)=decide (a=b) by by_cases h:a=b<;>simp[h])
 bits:=fun a=>by unfold Instr.sameBits;simp
theorem chk_int(P:Program)(t:Nat)(h:P.underlying t=some (.int .i64))(n:Nat)(e:Bool)(a:Int)(w:World):(Instr.checkKey e (n+1) t (Ix a)).run P w= .ok () w:=by
 unfold Instr.checkKey
 simp only[Sem.run_bind,run_underlying h,Result.andThen_ok];rfl
noncomputable def fs40:Array Field:=match Tryz.prog.underlying 55 with|some (.struct fs)=>fs|_=> #[]
theorem fs40_u:Tryz.prog.underlying 55=some (.struct fs40):=by kernel_rfl
noncomputable def fs40a:Field:=fs40[0]!
noncomputable def fs40b:Field:=fs40[1]!
theorem fs40_e:fs40= #[fs40a,fs40b]:=by kernel_rfl
theorem fs40_a:fs40a.name="A"∧fs40a.type=3∧fs40a.offset=0:=⟨by kernel_rfl,by kernel_rfl,by kernel_rfl⟩
theorem fs40_b:fs40b.name="B"∧fs40b.type=3∧fs40b.offset=1:=⟨by kernel_rfl,by kernel_rfl,by kernel_rfl⟩
noncomputable def ToM:MapK Tryz.prog KP Unit where
 t:=71
 kt:=55
 et:=75
 dec:=inferInstance
 enc:=fun p=> .agg #[Ix p.a,Ix p.b]
 encv:=fun _=> .agg #[]
 zv:=()
 ht:=by kernel_rfl
 hz:=by kernel_rfl
 chk:=fun e a w=>by
  show(Instr.checkKey e (9998+1+1) 55 _).run _ _=_
  unfold Instr.checkKey
  have p0:∀w,(part 3 #[Ix a.a,Ix a.b] 0).run Tryz.prog w= .ok (Ix a.a) w:=fun w=>by simp[part,Tryz.isAgg3,Tryz.sizeOf3]
  have p1:∀w,(part 3 #[Ix a.a,Ix a.b] 1).run Tryz.prog w= .ok (Ix a.b) w:=fun w=>by simp[part,Tryz.isAgg3,Tryz.sizeOf3]
  have hc:=chk_int Tryz.prog 3 (by kernel_rfl)
  simp[run_underlying fs40_u,fs40_e,fs40_a,fs40_b,p0,p1,hc]
 find:=find_struct (d:= .struct fs40) fs40_u (fun a b=>rfl) fun a b w=>by
  have hl:lay Tryz.prog 10000 55=some [.int .i64,.int .i64]:=by kernel_rfl
  obtain⟨r,hr,hi⟩:=run_eql_t (xs:=[Ix a.a,Ix a.b]) (ys:=[Ix b.a,Ix b.b]) hl (by kernel_rfl) rfl rfl w
  exact⟨r,hr,hi.trans pair_eq⟩
 bits:=fun a=>by
  show Instr.sameBits (9998+1+1) _ _=true
  unfold Instr.sameBits
  simp[Instr.sameBits]
theorem clone59:isClone Tryz.prog 54:=⟨Tryz.f54,Tryz.func54,by decide,by decide,by kernel_rfl,by kernel_rfl⟩
end Go.Proofs
