/-
  A range over a function, in terms of resources. Own work; plain Lean.
-/
import Derived.Test.YtmgpmgckbcjalaaGreatSlNum
import Derived.RangeFuncIn
import Derived.RangeFuncRecord
import Derived.RangeFuncLeaves
namespace Go.Sl
open Go.RowKit
structure Ext(β β':Base):Prop where
 sub:Sub β.heap β'.heap
 os:β'.os=β.os
 tape:β'.tape=β.tape
 output:β'.output=β.output∧β.drawn≤β'.drawn
theorem Ext.refl(β:Base):Ext β β:=⟨Sub.refl _,rfl,rfl,rfl,Nat.le_refl _⟩
theorem Ext.trans{a b c:Base}(h:Ext a b)(k:Ext b c):Ext a c:=⟨h.sub.trans k.sub,k.os.trans h.os,k.tape.trans h.tape,k.output.1.trans h.output.1,Nat.le_trans h.output.2 k.output.2⟩
theorem St.frameX{β:Base}{L M:List Res}{w:World}(h:St β (L++M) w):
  ∃β₁:Base,Ext β β₁∧(∀F,Knows β M F→F β₁.heap)∧St β₁ L w∧∀L' w',St β₁ L' w'→St β (L'++M) w':=by
 obtain⟨ho,ht,hp,hh,hd,hs,hs',hL⟩:=h
 obtain⟨a,b,hab,ha,hb,hLa,hMb⟩:=Sat.append.1 hL
 have hdb:Disj β.heap b:=hd.mono (Sub.refl _) hb
 refine⟨⟨un β.heap b,β.os,β.tape,β.output,β.drawn⟩,⟨sub_un_left _ _,rfl,rfl,rfl,Nat.le_refl _⟩,?_,⟨ho,ht,hp,a,disj_un (hd.mono (Sub.refl _) ha) hab.symm,un_sub hs (hb.trans hs'),ha.trans hs',hLa⟩,?_⟩
 ·intro F hF
  exact hF _ (sub_un_left _ _) fun r hr=>let⟨c,hc,hrc⟩:=hMb.each r hr;⟨c,hc.trans (sub_un_right hdb),hrc⟩
 ·rintro L' w' ⟨ho',ht',hp',h',hd',hs1,hs2,hL'⟩
  refine⟨ho',ht',hp',un h' b,?_,(sub_un_left _ _).trans hs1,un_sub hs2 ((sub_un_right hdb).trans hs1),?_⟩
  ·exact(disj_un (disj_un_left hd').symm hdb.symm).symm
  ·have hd2:Disj h' b:=(hd'.mono (sub_un_right hdb) (Sub.refl _)).symm
   exact Sat.append.2 ⟨h',b,hd2,sub_un_left _ _,sub_un_right hd2,hL',hMb⟩
theorem St.putObj{β:Base}{L:List Res}{w:World}{b:Nat}{o o':Obj}(h:St β (Sl.pt b o::L) w):St β (Sl.pt b o'::L) (w.putObj b o'):=by
 have hb:=h.pt 0 rfl
 refine h.put rfl rfl rfl (World.putObj_heap_same (Array.getElem?_eq_some_iff.1 hb).1) fun k hk _=>World.putObj_heap_other hk
def yfn(l:Nat):Value:= .func (.yield l) #[] #[]
section
variable {α:Type}{P:Program}
def YieldSL(P:Program)(β:Base)(l:Nat)(enc:α→List Value)(S:List α→Prop)(J X:List α→List Res→Prop):Prop:=
 ∀β₁,Ext β β₁→∀pre x M w,(∃xs,S xs∧pre++[x]<+:xs)→J pre M→St β₁ M w→
  ∃fn tmps assign body,(Instr.yield l (enc x).toArray).run P w= .ok (.round l fn tmps assign body) w∧
   RoundIn Fence.wide 2 P l fn tmps assign body w fun e w'=>
    (e= .returned (.bool true)∧∃M',J (pre++[x]) M'∧St β₁ M' w')∨(e= .returned (.bool false)∧∃M',X (pre++[x]) M'∧St β₁ M' w')
def SeqOf(P:Program)(β:Base)(fn:Value)(enc:α→List Value)(S:List α→Prop):Prop:=
 ∃g fst cap,fn= .func (.func g) fst.toArray cap.toArray∧cfB P g=true∧
  ∀β₁,Ext β β₁→∀l J X,YieldSL P β₁ l enc S J X→∀M w,J [] M→St β₁ M w→
   Calls P g (fst++yfn l::cap).toArray w fun e w'=>(∃v,e= .returned v)∧
    ((∃xs M',S xs∧J xs M'∧St β₁ M' w')∨(∃pre M',X pre M'∧St β₁ M' w'))
def SeqK(P:Program)(β:Base)(fn:Value)(enc:α→List Value)(S:List α→Prop)(K:List Res):Prop:=
 ∃g fst cap,fn= .func (.func g) fst.toArray cap.toArray∧cfB P g=true∧
  ∀β₁,Ext β β₁→∀l J X,YieldSL P β₁ l enc S J X→∀M w,J [] M→St β₁ (M++K) w→
   Calls P g (fst++yfn l::cap).toArray w fun e w'=>(∃v,e= .returned v)∧
    ((∃xs M',S xs∧J xs M'∧St β₁ M' w')∨(∃pre M',X pre M'∧St β₁ M' w'))
theorem SeqOf.ext{β β':Base}{fn:Value}{enc:α→List Value}{S:List α→Prop}(h:SeqOf P β fn enc S)(he:Ext β β'):SeqOf P β' fn enc S:=by
 obtain⟨g,fst,cap,e,hc,hk⟩:=h
 exact⟨g,fst,cap,e,hc,fun β₁ h1=>hk β₁ (he.trans h1)⟩
def mark(D:Nat):Deferred:={target:= .collected D,args:= #[]}
def updAll(f:Fm):List Nat→List Value→Fm
 |p::ps,v::vs=>updAll (upd f p v) ps vs
 |_,_=>f
def RPost(β:Base)(J:List Res→Prop)(X:Code→List Res→Prop):Exit→Act→World→Prop
 | .normal,_,w=>∃M,J M∧St β M w
 | .ret,_,w=>∃M,X .ret M∧St β M w
 | .exit id,_,w=>∃M,X (.exit id) M∧St β M w
 | .goto t,_,w=>∃M,X (.goto t) M∧St β M w
 |_,_,_=>False
theorem wpIn_n{P:Program}{ro:Option Nat}{m m':Nat}{c:Code}{Q:Exit→Act→World→Prop}{a:Act}{w:World}(h:c.wpIn (Fe ro) m P Q a w):c.wpIn (Fe ro) m' P Q a w:=
 fun b k cs h1 h2 _=>h b k cs h1 h2 fun _ hd=>by simp[Fe]at hd
theorem At.all{n:Nat}{ds:List Deferred}:∀(ps:List Nat) (vs:List Value) {f:Fm} {a:Act},At n ds f a→(∀p∈ps,Nat.blt p n=true)→
  At n ds (updAll f ps vs) {a with tmps:=(ps.zip vs).foldl (fun tmps (t,v)=>tmps.setIfInBounds t v) a.tmps}
 |[],_,f,a,h,_=>h
 |p::ps,[],f,a,h,_=>h
 |p::ps,v::vs,f,a,h,hp=>by
  have h1:=h.put (hp p (by simp)) v
  exact At.all ps vs h1 (fun q hq=>hp q (by simp[hq]))
variable {n:Nat}{ds:List Deferred}{β:Base}{Q:Exit→Act→World→Prop}{f:Fm}{L:List Res}
theorem c_rangeK {g : Operand} {K : List Res} {ps : List Nat} {assign body : Code} {fn : Value} {enc : α → List Value} {S : List α → Prop} (hfn : ev f g = fn) (hseq : SeqK P β fn enc S K)
    (hlen : ∀ x, (enc x).length = ps.length) (hps : ps.all (fun p => Nat.blt p n) = true)
    (I : List α → List Res → Prop) (X : Code → List α → List Res → Prop) (h0 : I [] L)
    (round : ∀ l β₁ pre x M, Ext β β₁ → (∃ xs, S xs ∧ pre ++ [x] <+: xs) → I pre M →
      RunC P (some l) n [] β₁ assign (Exit.then (Cut n [] β₁ fun f' M' => ∀ β₂, Ext β β₂ → RunC P (some l) n [] β₂ body (RPost β₂ (I (pre ++ [x])) (fun c => X c (pre ++ [x]))) f' M') (fun _ _ _ => False)) (updAll f ps (enc x)) M)
    (done : ∀ D xs M, S xs → I xs M → Fin n (mark D :: ds) β Q .normal f (M ++ [pt D (.deferred (some []))]))
    (stop : ∀ D c pre M, X c pre M → RunC P none n (mark D :: ds) β c Q f (M ++ [pt D (.deferred (some []))])) :
    RunC P none n ds β (.rangeFunc g ps.toArray assign body) Q f (L ++ K) := by
  intro a w ha hw
  refine wpIn_rangeFunc fun fnid _ => ?_
  obtain ⟨gg, fst, cap, rfl, hcf, hk⟩ := hseq
  have hw1 : St β (pt (w.heap.size + 1) (.loop { state := .ready, pending := none, fn := fnid, tmps := a.tmps, params := ps.toArray, assign, body, defers := w.heap.size }) :: pt w.heap.size (.deferred (some [])) :: (L ++ K))
      ((w.alloc (.deferred (some []))).alloc (.loop { state := .ready, pending := none, fn := fnid, tmps := a.tmps, params := ps.toArray, assign, body, defers := w.heap.size })) := by
    have h := (hw.new (.deferred (some []))).new (.loop { state := .ready, pending := none, fn := fnid, tmps := a.tmps, params := ps.toArray, assign, body, defers := w.heap.size })
    rwa [World.size_alloc] at h
  have hw1' := hw1
  generalize hW : ((w.alloc (.deferred (some []))).alloc (.loop { state := .ready, pending := none, fn := fnid, tmps := a.tmps, params := ps.toArray, assign, body, defers := w.heap.size })) = W at hw1'
  refine ⟨w.heap.size + 1, [mark w.heap.size], W, { target := .fn (.func gg) cap.toArray, args := fst.toArray ++ #[yfn (w.heap.size + 1)] }, W, gg, (fst ++ yfn (w.heap.size + 1) :: cap).toArray, W,
    hW ▸ run_enterLoop_outer fnid a.tmps ps.toArray assign body, ?_, fun _ _ => trivial, ?_, fun h => by simp [Fe] at h, callsIn_fe.2 ?_⟩
  · have hg : a.eval g = .func (.func gg) fst.toArray cap.toArray := by rw [ha.eval]; exact hfn
    simp only [resolve, List.map_toArray, List.map_cons, List.map_nil, hg, Deferred.ofValue]
    rfl
  · simp only [invoke]
    rw [run_callF hcf]
    simp
  · -- the block of the deferred calls is set aside
    have hw2 : St β ((pt (w.heap.size + 1) (.loop { state := .ready, pending := none, fn := fnid, tmps := a.tmps, params := ps.toArray, assign, body, defers := w.heap.size }) :: (L ++ K)) ++ [pt w.heap.size (.deferred (some []))]) W :=
      hw1'.perm (by
        refine List.Perm.cons _ ?_
        exact (List.perm_append_singleton _ _).symm)
    obtain ⟨β₁, ext1, _, hw3, back1⟩ := hw2.frameX
    clear hw1 hw1' hW hw2
    generalize w.heap.size = D at *
    let R0 : Loop := { state := .ready, pending := none, fn := fnid, tmps := a.tmps, params := ps.toArray, assign, body, defers := D }
    have hJ := hk β₁ ext1 (D + 1) (fun pre M => ∃ M0, I pre M0 ∧ M = pt (D + 1) (.loop R0) :: M0)
      (fun pre M => ∃ c M0, X c pre M0 ∧ M = pt (D + 1) (.loop { R0 with state := .done, pending := some c }) :: M0) ?_ _ W ⟨L, h0, rfl⟩ hw3
    · refine hJ.mono ?_
      rintro e w' ⟨⟨v, rfl⟩, ⟨xs, M', hS, ⟨M0, hI, rfl⟩, hw'⟩ | ⟨pre, M', ⟨c, M0, hX, rfl⟩, hw'⟩⟩
      · refine ⟨none, w'.putObj (D + 1) (.loop { R0 with state := .exhausted }), ?_, ?_⟩
        · have := run_endLoop (P := P) (w := w') (hw'.pt 0 rfl) (by simp [R0])
          exact this
        · have h5 : St β (M0 ++ [pt D (.deferred (some []))]) (w'.putObj (D + 1) (.loop { R0 with state := .exhausted })) := back1 _ _ ((hw'.putObj (o' := .loop { R0 with state := .exhausted })).drop (List.sublist_cons_self _ _))
          exact done D xs M0 hS hI _ _ ⟨by simp [ha.defers], ha.size, ha.get⟩ h5
      · refine ⟨some c, w'.putObj (D + 1) (.loop { R0 with state := .exhausted, pending := some c }), ?_, ?_⟩
        · have := run_endLoop (P := P) (w := w') (hw'.pt 0 rfl) (by simp)
          exact this
        · have h5 : St β (M0 ++ [pt D (.deferred (some []))]) (w'.putObj (D + 1) (.loop { R0 with state := .exhausted, pending := some c })) := back1 _ _ ((hw'.putObj (o' := .loop { R0 with state := .exhausted, pending := some c })).drop (List.sublist_cons_self _ _))
          exact stop D c pre M0 hX _ _ ⟨by simp [ha.defers], ha.size, ha.get⟩ h5
    · -- a round
      intro β₂ ext2 pre x M w2 hpre ⟨M0, hI, hM⟩ hw2'
      subst hM
      refine ⟨_, _, _, _, run_yield (hw2'.pt 0 rfl) (by simp [R0, hlen x]), ?_⟩
      refine roundIn_of_wpIn trivial ?_
      have hAt : At n [] (updAll f ps (enc x)) { tmps := ((R0.params.zip (enc x).toArray).foldl (fun tmps (t, a) => tmps.setIfInBounds t a) R0.tmps), defers := [] } := by
        have h := At.all (n := n) (ds := []) ps (enc x) (f := f) (a := { tmps := a.tmps, defers := [] }) ⟨rfl, ha.size, ha.get⟩ (fun p hp => by have := List.all_eq_true.1 hps p hp; simpa using this)
        have e : (R0.params.zip (enc x).toArray).foldl (fun tmps (t, a) => tmps.setIfInBounds t a) R0.tmps = (ps.zip (enc x)).foldl (fun tmps (t, v) => tmps.setIfInBounds t v) a.tmps := by
          simp [R0]
        rw [e]; exact h
      have hw3' : St β₂ (M0 ++ [pt (D + 1) (.loop R0)]) w2 := hw2'.perm (List.perm_append_singleton _ _).symm
      obtain ⟨β₃, ext3, _, hw4, back3⟩ := hw3'.frameX
      have hr := round (D + 1) β₃ pre x M0 ((ext1.trans ext2).trans ext3) hpre hI _ _ hAt hw4
      refine wpIn_n (ro := some (D + 1)) (m := 3) (m' := 2) (wpIn_mono hr fun e a1 w1 hq => ?_)
      cases e with
      | normal =>
        obtain ⟨f', M', hbody, hAt', hw5⟩ := hq
        have hw6 : St β₂ (pt (D + 1) (.loop R0) :: M') w1 := (back3 _ _ hw5).perm (List.perm_append_singleton _ _)
        refine ⟨_, run_beginRound (hw6.pt 0 rfl) rfl, ?_⟩
        have hw7 : St β₂ (M' ++ [pt (D + 1) (.loop { R0 with state := .busy })]) (w1.putObj (D + 1) (.loop { R0 with state := .busy })) :=
          (hw6.putObj (o' := .loop { R0 with state := .busy })).perm (List.perm_append_singleton _ _).symm
        obtain ⟨β₄, ext4, _, hw8, back4⟩ := hw7.frameX
        have hb := hbody β₄ ((ext1.trans ext2).trans ext4) _ _ hAt' hw8
        refine wpIn_n (ro := some (D + 1)) (m := 3) (m' := 2) (wpIn_mono hb fun e a2 w3 hq => ?_)
        have fin : ∀ M'', St β₄ M'' w3 → St β₂ (pt (D + 1) (.loop { R0 with state := .busy }) :: M'') w3 := fun M'' h => (back4 _ _ h).perm (List.perm_append_singleton _ _)
        cases e with
        | normal =>
          obtain ⟨M'', hI', h9⟩ := hq
          refine ⟨_, _, run_endRound none ((fin _ h9).pt 0 rfl), .inl ⟨rfl, _, ⟨M'', hI', rfl⟩, (fin _ h9).putObj⟩⟩
        | ret =>
          obtain ⟨M'', hX', h9⟩ := hq
          refine ⟨_, _, run_endRound (some .ret) ((fin _ h9).pt 0 rfl), .inr ⟨rfl, _, ⟨.ret, M'', hX', rfl⟩, (fin _ h9).putObj⟩⟩
        | exit id =>
          obtain ⟨M'', hX', h9⟩ := hq
          refine ⟨_, _, run_endRound (some (.exit id)) ((fin _ h9).pt 0 rfl), .inr ⟨rfl, _, ⟨.exit id, M'', hX', rfl⟩, (fin _ h9).putObj⟩⟩
        | goto t =>
          obtain ⟨M'', hX', h9⟩ := hq
          refine ⟨_, _, run_endRound (some (.goto t)) ((fin _ h9).pt 0 rfl), .inr ⟨rfl, _, ⟨.goto t, M'', hX', rfl⟩, (fin _ h9).putObj⟩⟩
        | panic ch => exact hq.elim
        | outgrown => exact hq.elim
      | exit id => exact hq.elim
      | goto t => exact hq.elim
      | ret => exact hq.elim
      | panic ch => exact hq.elim
      | outgrown => exact hq.elim
theorem s_yield{ro:Option Nat}{ops:Array Oper}{rest:List Oper}{own M:List Res}{l d:Nat}{ty:TypeId}{psn:String}{af:Array Edge}{c:Operand}{xs:List Operand}{ts:Array TypeId}{gd:Option (Nat×Bool)}{enc:α→List Value}{S:List α→Prop}
 {J X:List α→List Res→Prop}{pre:List α}{x:α}(hL:L=own++M)(hd:Nat.blt d n=true)(hx:ev f c=yfn l)(ha:xs.map (ev f)=enc x)(hY:YieldSL P β l enc S J X)(hpre:∃xs,S xs∧pre++[x]<+:xs)(hJ:J pre M)
 (kt:∀M',J (pre++[x]) M'→RunL P ro n ds β ops Q rest (upd f d (.bool true)) (own++M'))(kf:∀M',X (pre++[x]) M'→RunL P ro n ds β ops Q rest (upd f d (.bool false)) (own++M')):
  Step1 P ro n ds β ⟨some d,.call ⟨.value c,xs.toArray,ts⟩,ty,psn,af,gd⟩ Q (wpListIn (Fe ro) 3 P ops Q rest) f L:=by
 subst hL
 refine fun a w hat hw=>⟨fun _ _=>trivial,?_⟩
 obtain⟨β₁,ext,_,hw1,back⟩:=(hw.perm List.perm_append_comm:St β (M++own) w).frameX
 obtain⟨fn,tmps,assign,body,hy,hr⟩:=hY β₁ ext pre x M w hpre hJ hw1
 have he:(execOp (ev f) ⟨some d,.call ⟨.value c,xs.toArray,ts⟩,ty,psn,af,gd⟩).run P w= .ok (.round l fn tmps assign body) w:=by
  simp only[execOp,resolve,Sem.run_bind,hx,yfn,Deferred.ofValue,Sem.run_pure,Result.andThen_ok,List.map_toArray,ha,invoke]
  simpa using hy
 rw[hat.eval,semAt_of he (by simp),he,Oper.uponIn_round]
 refine⟨fun h=>by simp[Fe]at h,?_⟩
 have hr':RoundIn (Fe ro) (3-1) P l fn tmps assign body w _:=hr
 refine hr'.mono ?_
 rintro e w' (⟨rfl,M',hJ',hw'⟩|⟨rfl,M',hX',hw'⟩)
 ·exact kt M' hJ' _ w' (hat.put hd _) ((back _ _ hw').perm List.perm_append_comm)
 ·exact kf M' hX' _ w' (hat.put hd _) ((back _ _ hw').perm List.perm_append_comm)
theorem l_yield{ro:Option Nat}{ops:Array Oper}{rest:List Oper}{own M:List Res}{l d:Nat}{ty:TypeId}{psn:String}{af:Array Edge}{c:Operand}{xs:List Operand}{ts:Array TypeId}{enc:α→List Value}{S:List α→Prop}
 {J X:List α→List Res→Prop}{pre:List α}{x:α}(hL:L=own++M)(hd:Nat.blt d n=true)(hx:ev f c=yfn l)(ha:xs.map (ev f)=enc x)(hY:YieldSL P β l enc S J X)(hpre:∃xs,S xs∧pre++[x]<+:xs)(hJ:J pre M)
 (kt:∀M',J (pre++[x]) M'→RunL P ro n ds β ops Q rest (upd f d (.bool true)) (own++M'))(kf:∀M',X (pre++[x]) M'→RunL P ro n ds β ops Q rest (upd f d (.bool false)) (own++M')):
  RunL P ro n ds β ops Q (⟨some d,.call ⟨.value c,xs.toArray,ts⟩,ty,psn,af,none⟩::rest) f L:=
 l_step rfl (s_yield hL hd hx ha hY hpre hJ kt kf)
theorem g_yield{ro:Option Nat}{ops:Array Oper}{rest:List Oper}{own M:List Res}{l d:Nat}{ty:TypeId}{psn:String}{af:Array Edge}{c:Operand}{xs:List Operand}{ts:Array TypeId}{enc:α→List Value}{S:List α→Prop}
 {J X:List α→List Res→Prop}{pre:List α}{x:α}{j e:Nat}{b:Bool}(ho:(ops[j]?).bind (·.dst)=some e)(hf:f e= .bool b)(hL:L=own++M)(hd:Nat.blt d n=true)(hx:ev f c=yfn l)(ha:xs.map (ev f)=enc x)(hY:YieldSL P β l enc S J X)(hpre:∃xs,S xs∧pre++[x]<+:xs)(hJ:J pre M)
 (kt:∀M',J (pre++[x]) M'→RunL P ro n ds β ops Q rest (upd f d (.bool true)) (own++M'))(kf:∀M',X (pre++[x]) M'→RunL P ro n ds β ops Q rest (upd f d (.bool false)) (own++M')):
  RunL P ro n ds β ops Q (⟨some d,.call ⟨.value c,xs.toArray,ts⟩,ty,psn,af,some (j,b)⟩::rest) f L:=
 l_take rfl ho hf (s_yield hL hd hx ha hY hpre hJ kt kf)
theorem enterM{g:FuncId}{fn:Func}{c:Code}{args:Array Value}{w:World}{R:Ending→World→Prop}(hf:P.funcs[g]? =some fn)(hb:fn.body=some c)(hn:fn.ntmps=n)(hs:Nat.ble args.size n=true)
 (h:RunC P none n [] β c (bodyPostM (Fe none) 3 P fn R) (initF args) L)(hw:St β L w):Calls P g args w R:=by
 refine callsIn_fe (ro:=none) (m:=3)|>.1 (callsIn_of_wp_marks hf hb trivial (h _ w ⟨rfl,?_,fun i=> ?_⟩ hw))
 ·rw[hn]
  have:args.size≤n:=by simpa using hs
  simp;omega
 ·simp only[initF,Array.getD_eq_getD_getElem?]
  by_cases hi:i<args.size
  ·rw[Array.getElem?_append_left hi]
  ·rw[Array.getElem?_append_right (by omega),Array.getElem?_eq_none (by omega:args.size≤i)]
   by_cases hj:i-args.size<fn.ntmps-args.size
   ·simp[hj]
   ·simp[hj]
theorem retM{fn:Func}{R:Ending→World→Prop}{t D:Nat}{v:Value}(i:Nat)(hi:L[i]? =some (pt D (.deferred (some []))))(hr:fn.results= #[.tmp t])(hv:f t=v)(h:∀w,St β (L.set i (pt D (.deferred none))) w→R (.returned v) w):
  Fin n [mark D] β (bodyPostM (Fe none) 3 P fn R) .ret f L:=fun a w ha hw=>by
 show LeavesInM _ _ _ _ _ _ a.defers _ _
 rw[ha.defers]
 have hb:=hw.pt i hi
 refine⟨by simp,.inl ⟨D,_,rfl,run_takeDeferred hb,?_⟩⟩
 exact⟨v,by rw[results_tmp hr,ha.result,hv],h _ (St.back i hi (hw.front i hi).putObj)⟩
theorem retM12{fn:Func}{R:Ending→World→Prop}{t u D:Nat}{v v':Value}(i:Nat)(hi:L[i]? =some (pt D (.deferred (some []))))(hr:fn.results= #[.tmp t,.tmp u])(hv:f t=v)(hv':f u=v')(h:∀w,St β (L.set i (pt D (.deferred none))) w→R (.returned (.tuple #[v,v'])) w):
  Fin n [mark D] β (bodyPostM (Fe none) 3 P fn R) .ret f L:=fun a w ha hw=>by
 show LeavesInM _ _ _ _ _ _ a.defers _ _
 rw[ha.defers]
 have hb:=hw.pt i hi
 refine⟨by simp,.inl ⟨D,_,rfl,run_takeDeferred hb,?_⟩⟩
 exact⟨.tuple #[v,v'],by rw[results_tmp2 hr,ha.result,ha.result,hv,hv'],h _ (St.back i hi (hw.front i hi).putObj)⟩
end
end Go.Sl
