/-
  Messages sorted by the library. Own work; plain Lean.
-/
import Derived.Test.YtmhlglginimmnaaGreatDoorHv12
set_option linter.all false
namespace Go.Hv
open Go Go.Sl Go.Shelf Go.Proofs
abbrev MgT:={m:KMg//BdM m}
instance:Inhabited MgT:=⟨⟨⟨0,0,0,false,0,none,0,0⟩,by constructor<;>constructor<;>decide⟩⟩
abbrev MgB:Fl MgT:=⟨6,fun x=>mgE x.1,fun _=>rfl,fun _=>rfl,by decide⟩
theorem ordM_neg(x y:KMg):ordM x y<0↔x.to<y.to∨x.to=y.to∧x.number<y.number:=by
 unfold ordM orI
 by_cases h:x.to-y.to=0
 ·by_cases h2:x.number-y.number=0
  ·simp[h,h2];omega
  ·simp[h,h2];omega
 ·simp[h];omega
theorem swo_ordM:Go.Sort.SWO (ltOf fun x y:MgT=>ordM x.1 y.1):=by
 refine⟨fun x=> ?_,fun x y z=> ?_,fun x y z=> ?_⟩<;>unfold ltOf<;>simp only[ordM_neg,decide_eq_true_eq,decide_eq_false_iff_not]<;>omega
theorem ltK_iff{a b:KMg}:ltK a b=true↔a.to<b.to∨a.to=b.to∧a.number<b.number:=by unfold ltK;simp
theorem mgB_flat:∀(xs:List MgT),xs.flatMap MgB.enc=(xs.map Subtype.val).flatMap MgF.enc
 |[]=>rfl
 |x::xs=>by rw[List.flatMap_cons,List.map_cons,List.flatMap_cons,mgB_flat xs]
theorem mgB_row(T c:Nat)(p:Option Addr)(xs:List MgT):rowF MgB T p c xs=rowF MgF T p c (xs.map Subtype.val):=by
 show row (.slice p xs.length c) T 6 xs.length (xs.flatMap MgB.enc)=row (.slice p (xs.map Subtype.val).length c) T 6 (xs.map Subtype.val).length ((xs.map Subtype.val).flatMap MgF.enc)
 rw[mgB_flat,List.length_map]
abbrev Klt(a b:KMg):Prop:=a.to<b.to∨a.to=b.to∧a.number<b.number
theorem uniq_of{l:List KMg}(h:l.Pairwise Klt){a b:KMg}(ha:a∈l)(hb:b∈l)(h1:¬Klt a b)(h2:¬Klt b a):a=b:=by
 induction l with
 |nil=>cases ha
 |cons c l ih=>
  rw[List.pairwise_cons]at h
  rcases List.mem_cons.1 ha with rfl|ha'<;>rcases List.mem_cons.1 hb with rfl|hb'
  ·rfl
  ·exact absurd (h.1 _ hb') h1
  ·exact absurd (h.1 _ ha') h2
  ·exact ih h.2 ha' hb'
theorem sorted_ins{l ys:List KMg}{m:KMg}(hs:l.Pairwise Klt)(hm:∀y∈l,ltK m y=false→Klt y m)(hp:ys.Perm (l++[m]))(hy:ys.Pairwise fun x y=>ltK y x=false):ys=insB ltK m l:=by
 have hi:(insB ltK m l).Pairwise Klt:=insB_sort (lt:=ltK) (R:=Klt) (fun _ _=>ltK_iff.1) (fun x y z h g=>by unfold Klt at*;omega) hs hm
 have hp2:ys.Perm (insB ltK m l):=hp.trans (insB_perm ltK m l).symm
 refine hp2.eq_of_pairwise (le:=fun x y=>ltK y x=false) (fun a b ha hb h1 h2=> ?_) hy (hi.imp fun{x y} h=> ?_)
 ·exact uniq_of hi (hp2.mem_iff.1 ha) hb (fun q=>by rw[ltK_iff.2 q]at h2;cases h2) fun q=>by rw[ltK_iff.2 q]at h1;cases h1
 ·refine Bool.eq_false_iff.2 fun q=> ?_
  have:=ltK_iff.1 q
  unfold Klt at h;omega
end Go.Hv
namespace Go.Proofs
open Go Go.Sl Go.Hv Go.Shelf
theorem sortM_ok(β:Base)(w:World)(p:Option Addr)(c:Nat)(xs:List KMg){n:Nat}(hw:St β [rowF MgF 38 p c xs] w)(he:n=xs.length)(hn:xs.length≤1048576)(hb:∀x∈xs,BdM x):Calls Tryz.prog 70 #[.slice p n c,.func (.func 71) #[] #[]] w fun r w'=>
  r= .returned (.tuple #[])∧∃ys:List KMg,ys.Perm xs∧ys.Pairwise (fun x y=>ltK y x=false)∧St β [rowF MgF 38 p c ys] w':=by
 subst he
 have hv:(xs.attachWith BdM hb).map Subtype.val=xs:=by simp
 have hl:(xs.attachWith BdM hb).length=xs.length:=by simp
 have hw2:St β [rowF MgB 38 p c (xs.attachWith BdM hb)] w:=by rw[mgB_row,hv];exact hw
 have h:=sortFunc_row Tryz.sortMg MgB Tryz.isAgg38 Tryz.sizeOf38 (fun x y:MgT=>ordM x.1 y.1) swo_ordM 71 #[] (run_callF (by kernel_rfl)) (fun W x y=>cmpM_ok (World.base W) W (St.base W) x.1 y.1 x.2 y.2) hw2 (by rw[hl];omega)
 rw[hl]at h
 refine h.mono ?_
 rintro e w' ⟨rfl,ys,hp,hs,hw'⟩
 refine⟨rfl,ys.map Subtype.val,?_,?_,?_⟩
 ·rw[←hv];exact hp.map _
 ·rw[List.pairwise_map]
  refine hs.imp fun{x y} h=> ?_
  unfold ltOf at h
  refine Bool.eq_false_iff.2 fun q=> ?_
  simp only[decide_eq_false_iff_not]at h
  exact h ((ordM_neg _ _).2 (ltK_iff.1 q))
 ·rw[←mgB_row];exact hw'
theorem sortM2_ok(β:Base)(w:World)(p:Option Addr)(c:Nat)(l:List KMg)(m:KMg){n:Nat}(hw:St β [rowF MgF 38 p c (l++[m])] w)(he:n=(l++[m]).length)(hn:l.length≤1048575)(hb:∀x∈l++[m],BdM x)(hs:l.Pairwise Klt)(hm:∀y∈l,ltK m y=false→Klt y m):
  Calls Tryz.prog 70 #[.slice p n c,.func (.func 71) #[] #[]] w fun r w'=>r= .returned (.tuple #[])∧St β [rowF MgF 38 p c (insB ltK m l)] w':=by
 refine(sortM_ok β w p c (l++[m]) hw he (by rw[List.length_append];show _+1≤_;omega) hb).mono ?_
 rintro r w' ⟨rfl,ys,hp,hy,hw'⟩
 rw[sorted_ins hs hm hp hy]at hw'
 exact⟨rfl,hw'⟩
end Go.Proofs
namespace Go.Hv
open Go Go.Sl Go.Proofs
section
variable {X:KG}{ks:List (Int×KEh)}{mz:MPool}{zs:EPool}{N:Int}
theorem GOk.klt(h:GOk X ks mz zs)(hX:XOk X N):(mz.map Prod.fst).Pairwise Klt:=by
 have h1:=hX.osort
 rw[←h.out,List.pairwise_map]at h1
 rw[List.pairwise_map]
 refine List.Pairwise.imp_of_mem (fun{a b} ha hb hab=> ?_) h1
 have h2:=(h.mhd a ha).1;have h3:=(h.mhd b hb).1
 unfold Klt
 rw[h2.to,h3.to,h2.number,h3.number];exact hab
theorem GOk.bdm(h:GOk X ks mz zs)(hX:XOk X N)(hN:N≤4611686018427387902):∀m∈mz.map Prod.fst,BdM m:=fun m hm=>by
 obtain⟨z,hz,rfl⟩:=List.mem_map.1 hm
 have h2:=(h.mhd z hz).1
 obtain⟨_,_,h3,h4,h5⟩:=hX.ohd z.2 (by rw[←h.out];exact List.mem_map.2 ⟨z,hz,rfl⟩)
 have h6:=hX.gv z.2.to.toNat (by omega)
 unfold BdM
 rw[h2.to,h2.number]
 constructor<;>constructor<;>omega
theorem GOk.ltm(h:GOk X ks mz zs)(hX:XOk X N){m:KMg}(hm:m.number=X.gv.at m.to.toNat+1):∀y∈mz.map Prod.fst,ltK m y=false→Klt y m:=fun y hy hn=>by
 obtain⟨z,hz,rfl⟩:=List.mem_map.1 hy
 have h2:=(h.mhd z hz).1
 obtain⟨_,_,h3,h4,h5⟩:=hX.ohd z.2 (by rw[←h.out];exact List.mem_map.2 ⟨z,hz,rfl⟩)
 have hn':¬Klt m z.1:=fun q=>by rw[ltK_iff.2 q]at hn;cases hn
 unfold Klt at*
 rw[h2.to,h2.number]at*
 by_cases e:z.2.to=m.to
 ·refine .inr ⟨e,?_⟩;rw[e]at h5;omega
 ·exact .inl (by omega)
end
end Go.Hv
