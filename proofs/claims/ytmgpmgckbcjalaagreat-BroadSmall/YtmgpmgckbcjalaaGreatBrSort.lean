/-
 Things and pairs sorted by the library. Own work; plain Lean.
-/
import Derived.Test.YtmgpmgckbcjalaaGreatBr2
import Derived.Test.YtmgpmgckbcjalaaGreatBrShelf
import Derived.Test.YtmgpmgckbcjalaaGreatSlSortF
namespace Go.Brd
open Go.Sl Go.Shelf Go.Proofs
instance:Inhabited KT:=⟨⟨0,zeroA⟩⟩
instance:Inhabited KP:=⟨⟨0,0⟩⟩
theorem cmpI_neg(a b:Int):cmpI a b<0↔a<b:=by unfold cmpI;split<;>(try split)<;>omega
theorem cmpI_zero(a b:Int):cmpI a b=0↔a=b:=by unfold cmpI;split<;>(try split)<;>omega
theorem swo_lx:Go.Sort.SWO (ltOf fun x y:KT=>cmpI x.ar.lx y.ar.lx):=by
 refine⟨fun x=> ?_,fun x y z=> ?_,fun x y z=> ?_⟩<;>unfold ltOf<;>simp only[cmpI_neg,decide_eq_true_eq,decide_eq_false_iff_not]<;>omega
theorem ordP_neg(x y:KP):Go.Proofs.ordP x y<0↔x.a<y.a∨x.a=y.a∧x.b<y.b:=by
 unfold Go.Proofs.ordP
 rw[orI_two]
 by_cases h:x.a=y.a
 ·rw[if_pos ((cmpI_zero _ _).2 h),cmpI_neg];omega
 ·rw[if_neg (fun q=>h ((cmpI_zero _ _).1 q)),cmpI_neg];omega
theorem swo_ordP:Go.Sort.SWO (ltOf Go.Proofs.ordP):=by
 refine⟨fun x=> ?_,fun x y z=> ?_,fun x y z=> ?_⟩<;>unfold ltOf<;>simp only[ordP_neg,decide_eq_true_eq,decide_eq_false_iff_not]<;>omega
end Go.Brd
namespace Go.Proofs
open Go Go.Sl Go.Brd Go.Shelf
theorem sortT_ok(β:Base)(w:World)(p:Option Addr)(c:Nat)(xs:List KT)(hw:St β [rowF ThingF 87 p c xs] w)(hn:xs.length≤1048576):Calls Tryz.prog 63 #[.slice p xs.length c,.func (.func 64) #[] #[]] w fun r w'=>
  r= .returned (.tuple #[])∧∃ys:List KT,ys.Perm xs∧ys.Pairwise (fun x y=>x.ar.lx≤y.ar.lx)∧St β [rowF ThingF 87 p c ys] w':=by
 refine(sortFunc_row Tryz.sortTh ThingF Tryz.isAgg87 Tryz.sizeOf87 (fun x y:KT=>cmpI x.ar.lx y.ar.lx) swo_lx 64 #[] (run_callF (by kernel_rfl)) (fun W x y=>cmpThing_ok (World.base W) W (St.base W) x y) hw (by omega)).mono ?_
 rintro e w' ⟨rfl,ys,hp,hs,hw'⟩
 refine⟨rfl,ys,hp,hs.imp fun{x y} h=> ?_,hw'⟩
 unfold ltOf at h
 simp only[cmpI_neg,decide_eq_false_iff_not]at h
 omega
theorem sortP_ok(β:Base)(w:World)(p:Option Addr)(c:Nat)(xs:List KP)(hw:St β [rowF PairF 55 p c xs] w)(hn:xs.length≤1048576):Calls Tryz.prog 41 #[.slice p xs.length c,.func (.func 42) #[] #[]] w fun r w'=>
  r= .returned (.tuple #[])∧St β [rowF PairF 55 p c (sortP xs)] w':=by
 refine(sortFunc_row Tryz.sortPa PairF Tryz.isAgg55 Tryz.sizeOf55 ordP swo_ordP 42 #[] (run_callF (by kernel_rfl)) (fun W x y=>order_ok (World.base W) W (St.base W) x y) hw (by omega)).mono ?_
 rintro e w' ⟨rfl,ys,hp,hs,hw'⟩
 refine⟨rfl,?_⟩
 have:ys=sortP xs:=sortP_eq hp (hs.imp fun{x y} h=>by
  unfold ltOf at h
  simp only[ordP_neg,decide_eq_false_iff_not]at h
  unfold leP
  simp only[decide_eq_true_eq]
  omega)
 rw[←this];exact hw'
end Go.Proofs
