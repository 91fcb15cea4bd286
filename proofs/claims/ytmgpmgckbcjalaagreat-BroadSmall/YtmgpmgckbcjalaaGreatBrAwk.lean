/-
 What the chapter's examples come to. Own work; plain Lean.
-/
import Derived.Test.YtmgpmgckbcjalaaGreatBrSp
namespace Go.Brd
open Go.Sl Go.Proofs
def fourL:List KA:=[⟨0,0,4,4⟩,⟨4,4,6,6⟩,⟨5,0,9,3⟩,⟨9,3,9,3⟩]
def idsL:List Int:=[7,3,5,1]
def newS:KSp:=⟨[],[]⟩
def awS(k:Nat):KSp:=((idsL.zip fourL).take k).foldl (fun s p=>putX s p.1 p.2) newS
theorem new_okS:newS.ok:=⟨by decide,(fun _ h=>(List.not_mem_nil h).elim),by decide,List.nodup_nil,List.nodup_nil⟩
theorem awS_ok:∀k,(awS k).ok:=fun k=>by
 unfold awS
 generalize (idsL.zip fourL).take k=l
 have:∀(l:List (Int×KA)) (s:KSp),s.ok→(l.foldl (fun s p=>putX s p.1 p.2) s).ok:=by
  intro l
  induction l with
  |nil=>intro s h;exact h
  |cons p l ih=>intro s h;exact ih _ (put_ok h _ _)
 exact this l _ new_okS
theorem aw_step{k:Nat}{x:Int}{y:KA}(hx:idsL[k]? =some x)(hy:fourL[k]? =some y):errPut (awS k) x y=0∧putX (awS k) x y=awS (k+1):=by
 match k with
 |0=>simp[idsL,fourL]at hx hy;subst hx hy;exact⟨by decide,rfl⟩
 |1=>simp[idsL,fourL]at hx hy;subst hx hy;exact⟨by decide,rfl⟩
 |2=>simp[idsL,fourL]at hx hy;subst hx hy;exact⟨by decide,rfl⟩
 |3=>simp[idsL,fourL]at hx hy;subst hx hy;exact⟨by decide,rfl⟩
 |k+4=>simp[idsL]at hx
def aw5:KSp:=toldS (awS 4)
def aw6:KSp:=putX aw5 3 ⟨5,2,6,6⟩
def aw7:KSp:=toldS aw6
theorem aw5_ok:aw5.ok:=told_ok (awS_ok 4)
theorem aw6_ok:aw6.ok:=put_ok aw5_ok _ _
theorem aw7_ok:aw7.ok:=told_ok aw6_ok
theorem sortP_is{l m:List KP}(h:m.isPerm l=true)(hm:m.Pairwise fun p q=>leP p q=true):sortP l=m:=(sortP_eq (List.isPerm_iff.1 h) hm).symm
theorem sortI_is{l m:List Int}(h:m.isPerm l=true)(hm:m.Pairwise fun p q=>p≤q):sortI l=m:=sortI_one ((sortI_perm l).trans (List.isPerm_iff.1 h).symm) (sortI_sorted _) hm
theorem aw_put:errPut aw5 3 ⟨5,2,6,6⟩=0:=by decide+kernel
theorem aw_four:sortP (pairsT (things fourL 0))=[⟨0,1⟩,⟨2,3⟩]:=sortP_is (by decide+kernel) (by decide+kernel)
theorem aw_now:pairsS (awS 4)=[⟨1,5⟩,⟨3,7⟩]:=sortP_is (by decide+kernel) (by decide+kernel)
theorem aw_began:beganS (awS 4)=pairsS (awS 4):=List.filter_eq_self.2 fun p _=>by
 have:(awS 4).told=[]:=by decide+kernel
 simp[this]
theorem aw_ended:endedS (awS 4)=[]:=by
 have:(awS 4).told=[]:=by decide+kernel
 rw[endedS,this];exact sortP_is (by decide) List.Pairwise.nil
theorem aw_ar6:aw6.ar=[(7,⟨0,0,4,4⟩),(5,⟨5,0,9,3⟩),(1,⟨9,3,9,3⟩),(3,⟨5,2,6,6⟩)]:=by decide+kernel
theorem aw_told6:aw6.told=[⟨1,5⟩,⟨3,7⟩]:=by
 have:aw6.told=pairsS (awS 4):=by unfold aw6 putX;rw[if_pos aw_put];rfl
 rw[this,aw_now]
theorem aw_later:pairsS aw6=[⟨1,5⟩,⟨3,5⟩]:=by rw[pairsS,aw_ar6];exact sortP_is (by decide+kernel) (by decide+kernel)
theorem aw_next:beganS aw6=[⟨3,5⟩]:=by rw[beganS,aw_later,aw_told6];decide
theorem aw_over:endedS aw6=[⟨3,7⟩]:=by rw[endedS,aw_later,aw_told6];exact sortP_is (by decide+kernel) (by decide+kernel)
theorem aw_query:queryX aw7 ⟨4,0,5,0⟩=[5,7]:=by
 have:aw7.ar=aw6.ar:=rfl
 rw[queryX,if_pos (by decide),queryS,hitS,this,aw_ar6]
 exact sortI_is (by decide+kernel) (by decide+kernel)
end Go.Brd
