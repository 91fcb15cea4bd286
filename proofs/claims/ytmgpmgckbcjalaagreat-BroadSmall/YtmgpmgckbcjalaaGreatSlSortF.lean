/-
  The library's SortFunc over one's own rows of structs, with a comparator walked by one's own rules. Own work; plain Lean.
-/
import Derived.Lib.QuietBelow
import Derived.Test.YtmgpmgckbcjalaaGreatSlSortK
namespace Go.Sl
open Go.Sort Go.Shelf Go.Proofs Go.RowKit
theorem grown_of_below{w w':World}(h:Below w.heap.size w w')(hd:w.drawn≤w'.drawn):∃q os,w'=Go.Sort.grow (w.drewN q) os:=by
 obtain⟨p,hp⟩:=regrown_of_below h
 have hpd:w'.drawn=p.d:=by rw[hp];rfl
 refine⟨p.d-w.drawn,p.os,?_⟩
 have e:redrawn w p.d=w.drewN (p.d-w.drawn):=by
  unfold redrawn World.drewN
  rw[show w.drawn+(p.d-w.drawn)=p.d by omega]
 rw[←e];exact hp
theorem grown_of_st{w w':World}(h:St (World.base w) [] w'):∃q os,w'=Go.Sort.grow (w.drewN q) os:=grown_of_below h.below h.drawn
section
variable {P:Program}{ρ:Ren}{α:Type}[Inhabited α]{β:Base}{w:World}
theorem cmp_lays{g:Nat}{cb:Array Value}{enc:α→List Value}{k:Nat}{cf:α→α→Int}{blk off size:Nat}{w:World}
 (h:∀W x y,Calls P g (#[.agg (enc x).toArray,.agg (enc y).toArray]++cb) W fun e w'=>e= .returned (.int .i64 (cf x y))∧St (World.base W) [] w'):CmpLays P g cb enc k cf blk off size w:=
 fun _ _ _ _ x y=>(h _ x y).mono fun _ _ ⟨he,hs⟩=>⟨he,grown_of_st hs⟩
theorem sortFunc_row(Y:SlLaysF0.n6 P ρ)(F:Fl α)(aE:∀w,(isAgg (ρ.t 24)).run P w= .ok true w)(zE:∀w,(Go.sizeOf (ρ.t 24)).run P w= .ok F.n w)(cf:α→α→Int)(hO:SWO (ltOf cf))(g:Nat)(cb:Array Value)
 (eg:∀args w,(callFunc g args).run P w= .ok (.enter g args) w)
 (hc:∀W x y,Calls P g (#[.agg (F.enc x).toArray,.agg (F.enc y).toArray]++cb) W fun e w'=>e= .returned (.int .i64 (cf x y))∧St (World.base W) [] w')
 {T c:Nat}{p:Option Addr}{xs:List α}(hw:St β [rowF F T p c xs] w)(hsz:xs.length<4611686018427387904):
  Calls P (ρ.f 6) #[.slice p xs.length c,.func (.func g) #[] cb] w fun e w'=>e= .returned (.tuple #[])∧∃ys:List α,ys.Perm xs∧ys.Pairwise (fun x y=>ltOf cf y x=false)∧St β [rowF F T p c ys] w':=by
 obtain⟨_,hr⟩:∃a,rowF F T p c xs a:=by
  obtain⟨_,_,_,a,_,_,_,hL⟩:=hw
  obtain⟨a1,_,h⟩:=hL.each _ (List.mem_cons_self)
  exact⟨a1,h⟩
 rcases hr.2 with⟨e1,h0⟩|⟨b,cap,cur,e,_⟩
 ·have hx:xs=[]:=List.eq_nil_of_length_eq_zero h0
  subst hx
  refine(AnyF.slices_SortFunc_none Y p c (.func (.func g) #[] cb) w).mono fun e w' ⟨h1,h2⟩=>⟨h1,[],.refl _,.nil,?_⟩
  subst h2;exact hw
 ·injection e with e1 e2 e3
  subst e1;subst e3
  have hh:=rowv_holds hw
  have hH:HoldsK F.enc F.n w b 0 xs.toArray:=by
   unfold HoldsK
   rw[show flatK F.enc F.n xs.toArray=(xs.flatMap F.enc).toArray by rw[←flatK_list F xs]]
   exact hh.1
  refine(AnyQ.slices_SortFunc Y F.n aE zE F.enc F.len (fun x v hv=>List.all_eq_true.1 (F.one x) v hv) cf hO g cb b 0 c xs.toArray w eg (cmp_lays hc) hH hh.2.1 (by simpa using hsz)).mono fun e w' ⟨h1,d',n,os,⟨hs,_,hp⟩,hso,h2⟩=>⟨h1,d'.toList,?_,?_,?_⟩
  ·have hs':d'.size=xs.length:=by simpa using hs
   have e1:d'.extract 0 xs.toArray.size=d':=by simp[←hs']
   have e2:xs.toArray.extract 0 xs.toArray.size=xs.toArray:=by simp
   rw[e1,e2]at hp
   simpa using hp
  ·rw[List.pairwise_iff_getElem]
   intro i j hi hj hij
   have hs':d'.size=xs.length:=by simpa using hs
   have:=hso i j (Nat.zero_le _) hij (by simp at hj;simpa[hs']using hj)
   rw[getElem!_pos d' j (by simpa using hj),getElem!_pos d' i (by simpa using hi)]at this
   rw[Array.getElem_toList,Array.getElem_toList];exact this
  ·subst h2
   have hs':d'.toList.length=xs.length:=by simpa using hs
   have h:=hw.putRowV (us:=d'.toList.flatMap F.enc) (q:=n) (os:=os) (by rw[fl_len,hs'])
   unfold sortWorldK putRowK
   rw[show flatK F.enc F.n d'=(d'.toList.flatMap F.enc).toArray by rw[←flatK_list F d'.toList]]
   rw[show rowF F T (some ⟨b,0,none⟩) c d'.toList=row (.slice (some ⟨b,0,none⟩) xs.length c) T F.n xs.length (d'.toList.flatMap F.enc) by show row _ _ _ _ _=_;rw[hs']]
   exact h
end
end Go.Sl
