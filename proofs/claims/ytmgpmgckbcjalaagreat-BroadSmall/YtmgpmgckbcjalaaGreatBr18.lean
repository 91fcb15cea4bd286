/-
 Lists of areas that are lent, the bag, the reference's pairs: walked. Printed by a program of my own.
-/
import Derived.Test.YtmgpmgckbcjalaaGreatBr17
import Derived.Test.YtmgpmgckbcjalaaGreatBrLaw
namespace Go.Brd
open Go.Sl Go.Proofs
def markAr(k i:Nat):KA:=⟨((mrk k i:Nat):Int),0,0,0⟩
def lentX{α:Type}(mk:Nat→Nat→α)(xs:List α):List α:=xs++mkL mk 1 12
theorem lentX_len{α:Type}(mk:Nat→Nat→α)(xs:List α):(lentX mk xs).length=xs.length+12:=by unfold lentX;rw[List.length_append,mkL_len]
theorem lentX_lo{α:Type}{mk:Nat→Nat→α}{xs:List α}{k:Nat}{a b:α}(h1:(lentX mk xs)[k]? =some a)(h2:xs[k]? =some b):a=b:=by
 have hk:=(List.getElem?_eq_some_iff.1 h2).1
 unfold lentX at h1;rw[List.getElem?_append_left hk,h2]at h1;injection h1 with h1;exact h1.symm
theorem lentX_hi{α:Type}{mk:Nat→Nat→α}{xs:List α}{k:Nat}{a:α}(h1:(lentX mk xs)[k]? =some a)(hk:xs.length≤k):a=mk 1 (k-xs.length):=by
 have hl:=(List.getElem?_eq_some_iff.1 h1).1
 rw[lentX_len]at hl
 unfold lentX at h1
 rw[List.getElem?_append_right hk,mkL_at (by omega)]at h1
 exact(Option.some.inj h1).symm
theorem mkL_zero{α:Type}(mk:Nat→Nat→α)(k:Nat):mkL mk k 0=[]:=rfl
theorem tk_snoc{α:Type}{l:List α}{k:Nat}{p:α}(hp:l[k]? =some p):l.take k++[p]=l.take (k+1):=by rw[List.take_add_one,hp];rfl
theorem arr4_eq{a b c d e f g h:Int}:[Ix a,Ix b,Ix c,Ix d]=[Ix e,Ix f,Ix g,Ix h]↔a=e∧b=f∧c=g∧d=h:=by simp
theorem area_eq'{a b:KA}:a=b↔a.lx=b.lx∧a.ly=b.ly∧a.hx=b.hx∧a.hy=b.hy:=by cases a;cases b;simp
theorem rp_row{l:List KA}{i:Nat}{x:KA}(hx:l[i]? =some x):pairsT ((things l 0).drop i)=hitsT ⟨(i:Int),x⟩ ((things l 0).drop (i+1))++pairsT ((things l 0).drop (i+1)):=by
 have h:(things l 0)[i]? =some ⟨(i:Int),x⟩:=by rw[things_get,hx,Nat.zero_add];rfl
 obtain⟨h1,h2⟩:=List.getElem?_eq_some_iff.1 h
 rw[List.drop_eq_getElem_cons h1,h2];rfl
theorem rp_yes{l:List KA}{i k:Nat}{x y:KA}(hik:i<k)(hy:l[k]? =some y)(h:touchA x y):hitsT ⟨(i:Int),x⟩ ((things l 0).drop k)=⟨(i:Int),(k:Int)⟩::hitsT ⟨(i:Int),x⟩ ((things l 0).drop (k+1)):=by
 have h0:(things l 0)[k]? =some ⟨(k:Int),y⟩:=by rw[things_get,hy,Nat.zero_add];rfl
 obtain⟨h1,h2⟩:=List.getElem?_eq_some_iff.1 h0
 rw[List.drop_eq_getElem_cons h1,h2]
 unfold hitsT
 rw[List.filter_cons,if_pos (by simpa using h),List.map_cons]
 congr 1
 show(⟨min (i:Int) k,max (i:Int) k⟩:KP)=_
 rw[Int.min_eq_left (by omega),Int.max_eq_right (by omega)]
theorem rp_no{l:List KA}{i k:Nat}{x y:KA}(hy:l[k]? =some y)(h:¬touchA x y):hitsT ⟨(i:Int),x⟩ ((things l 0).drop k)=hitsT ⟨(i:Int),x⟩ ((things l 0).drop (k+1)):=by
 have h0:(things l 0)[k]? =some ⟨(k:Int),y⟩:=by rw[things_get,hy,Nat.zero_add];rfl
 obtain⟨h1,h2⟩:=List.getElem?_eq_some_iff.1 h0
 rw[List.drop_eq_getElem_cons h1,h2]
 unfold hitsT
 rw[List.filter_cons,if_neg (by simpa using h)]
theorem rp_end{l:List KA}{i k:Nat}{x:KA}(h:l.length≤k):hitsT ⟨(i:Int),x⟩ ((things l 0).drop k)=[]:=by
 rw[List.drop_eq_nil_of_le (by rw[things_len];exact h)];rfl
theorem pairsT_le:∀l:List KT,(pairsT l).length≤l.length*l.length
 |[]=>by simp[pairsT]
 |x::l=>by
  have h2:(hitsT x l).length≤l.length:=by unfold hitsT;rw[List.length_map];exact List.length_filter_le _ _
  have:=pairsT_le l
  show(hitsT x l++pairsT l).length≤(l.length+1)*(l.length+1)
  rw[List.length_append,Nat.add_mul,Nat.mul_add];omega
theorem pairsA_le{l:List KA}(h:l.length≤128):(pairsA l).length≤16384:=by
 rw[pairsA_eq]
 have:=pairsT_le (things l 0)
 rw[things_len]at this
 have h3:l.length*l.length≤128*128:=Nat.mul_le_mul h h
 omega
theorem rp_len{l:List KA}{out R:List KP}(h:out++R=pairsA l)(hl:l.length≤128):out.length≤16384:=by
 have:=pairsA_le hl
 rw[←h,List.length_append]at this;omega
theorem rp_touch{l:List KA}{i k:Nat}{x x' y:KA}(hok:∀a∈l,okA a)(hx:l[i]? =some x)(hx':l[i]? =some x')(hy:l[k]? =some y)(h:meetA x' y):touchA x y:=by
 rw[hx]at hx';obtain rfl:=Option.some.inj hx'
 exact(meet_touch (hok _ (List.mem_of_getElem? hx)) (hok _ (List.mem_of_getElem? hy))).1 h
theorem rp_meet{l:List KA}{i k:Nat}{x x' y:KA}(hok:∀a∈l,okA a)(hx:l[i]? =some x)(hx':l[i]? =some x')(hy:l[k]? =some y)(h:touchA x y):meetA x' y:=by
 rw[hx]at hx';obtain rfl:=Option.some.inj hx'
 exact(meet_touch (hok _ (List.mem_of_getElem? hx)) (hok _ (List.mem_of_getElem? hy))).2 h
end Go.Brd
namespace Go.Proofs
open Go Go.Sl Go.Brd
theorem tf125:Tryz.prog.underlying 90=some (.slice 163):=by kernel_rfl
theorem tf126:slB Tryz.prog 90 163 1=true:=by kernel_rfl
theorem tf128:Tryz.prog.underlying 91=some (.slice 27):=by kernel_rfl
theorem tf129:slB Tryz.prog 91 27 1=true:=by kernel_rfl
theorem tf131:Tryz.prog.underlying 92=some (.slice 165):=by kernel_rfl
theorem tf132:slB Tryz.prog 92 165 1=true:=by kernel_rfl
theorem tf134:Tryz.prog.underlying 93=some (.slice 167):=by kernel_rfl
theorem tf135:slB Tryz.prog 93 167 1=true:=by kernel_rfl
theorem tf137:Tryz.prog.underlying 94=some (.slice 169):=by kernel_rfl
theorem tf138:slB Tryz.prog 94 169 1=true:=by kernel_rfl
theorem tf140:Tryz.prog.underlying 95=some (.slice 174):=by kernel_rfl
theorem tf141:slB Tryz.prog 95 174 1=true:=by kernel_rfl
theorem tf143:Tryz.prog.underlying 96=some (.slice 179):=by kernel_rfl
theorem tf144:slB Tryz.prog 96 179 1=true:=by kernel_rfl
theorem tf146:Tryz.prog.underlying 97=some (.slice 184):=by kernel_rfl
theorem tf147:slB Tryz.prog 97 184 1=true:=by kernel_rfl
theorem tf149:Tryz.prog.underlying 98=some (.slice 186):=by kernel_rfl
theorem tf150:slB Tryz.prog 98 186 1=true:=by kernel_rfl
theorem tf152:Tryz.prog.underlying 99=some (.slice 190):=by kernel_rfl
theorem tf153:slB Tryz.prog 99 190 1=true:=by kernel_rfl
theorem tf155:Tryz.prog.underlying 100=some (.slice 194):=by kernel_rfl
theorem tf156:slB Tryz.prog 100 194 1=true:=by kernel_rfl
theorem tf158:Tryz.prog.underlying 101=some (.slice 22):=by kernel_rfl
theorem tf159:slB Tryz.prog 101 22 1=true:=by kernel_rfl
theorem tf161:Tryz.prog.underlying 102=some (.slice 199):=by kernel_rfl
theorem tf162:slB Tryz.prog 102 199 1=true:=by kernel_rfl
theorem tf164:Tryz.prog.underlying 103=some (.slice 203):=by kernel_rfl
theorem tf165:slB Tryz.prog 103 203 1=true:=by kernel_rfl
theorem tf167:Tryz.prog.underlying 104=some (.slice 208):=by kernel_rfl
theorem tf168:slB Tryz.prog 104 208 1=true:=by kernel_rfl
theorem tf170:Tryz.prog.underlying 105=some (.slice 213):=by kernel_rfl
theorem tf171:slB Tryz.prog 105 213 1=true:=by kernel_rfl
theorem tf173:Tryz.prog.underlying 106=some (.slice 218):=by kernel_rfl
theorem tf174:slB Tryz.prog 106 218 1=true:=by kernel_rfl
theorem tf176:Tryz.prog.underlying 107=some (.slice 222):=by kernel_rfl
theorem tf177:slB Tryz.prog 107 222 1=true:=by kernel_rfl
theorem tf179:Tryz.prog.underlying 108=some (.slice 226):=by kernel_rfl
theorem tf180:slB Tryz.prog 108 226 1=true:=by kernel_rfl
theorem tf182:fldB Tryz.prog 110 12 12 1 false=true:=by kernel_rfl
theorem tf183:tyB Tryz.prog 49 false 1=true:=by kernel_rfl
theorem tf184:fldB Tryz.prog 110 0 0 1 false=true:=by kernel_rfl
theorem tf185:tyB Tryz.prog 90 false 1=true:=by kernel_rfl
theorem tf186:cfB Tryz.prog 67=true:=by kernel_rfl
theorem tf187:fldB Tryz.prog 110 1 1 1 false=true:=by kernel_rfl
theorem tf188:tyB Tryz.prog 91 false 1=true:=by kernel_rfl
theorem tf189:cfB Tryz.prog 68=true:=by kernel_rfl
theorem tf190:fldB Tryz.prog 110 2 2 1 false=true:=by kernel_rfl
theorem tf191:tyB Tryz.prog 92 false 1=true:=by kernel_rfl
theorem tf192:cfB Tryz.prog 69=true:=by kernel_rfl
theorem tf193:fldB Tryz.prog 110 3 3 1 false=true:=by kernel_rfl
theorem tf194:tyB Tryz.prog 93 false 1=true:=by kernel_rfl
theorem tf195:cfB Tryz.prog 70=true:=by kernel_rfl
theorem tf196:fldB Tryz.prog 110 4 4 1 false=true:=by kernel_rfl
theorem tf197:tyB Tryz.prog 94 false 1=true:=by kernel_rfl
theorem tf198:cfB Tryz.prog 71=true:=by kernel_rfl
theorem tf199:fldB Tryz.prog 110 5 5 1 false=true:=by kernel_rfl
theorem tf200:tyB Tryz.prog 95 false 1=true:=by kernel_rfl
theorem tf201:cfB Tryz.prog 72=true:=by kernel_rfl
theorem tf202:fldB Tryz.prog 110 6 6 1 false=true:=by kernel_rfl
theorem tf203:tyB Tryz.prog 96 false 1=true:=by kernel_rfl
theorem tf204:cfB Tryz.prog 73=true:=by kernel_rfl
theorem tf205:fldB Tryz.prog 110 7 7 1 false=true:=by kernel_rfl
theorem tf206:tyB Tryz.prog 97 false 1=true:=by kernel_rfl
theorem tf207:cfB Tryz.prog 74=true:=by kernel_rfl
theorem tf208:fldB Tryz.prog 110 8 8 1 false=true:=by kernel_rfl
theorem tf209:tyB Tryz.prog 98 false 1=true:=by kernel_rfl
theorem tf210:cfB Tryz.prog 75=true:=by kernel_rfl
theorem tf211:fldB Tryz.prog 110 9 9 1 false=true:=by kernel_rfl
theorem tf212:tyB Tryz.prog 99 false 1=true:=by kernel_rfl
theorem tf213:cfB Tryz.prog 76=true:=by kernel_rfl
theorem tf214:fldB Tryz.prog 110 10 10 1 false=true:=by kernel_rfl
theorem tf215:tyB Tryz.prog 100 false 1=true:=by kernel_rfl
theorem tf216:cfB Tryz.prog 77=true:=by kernel_rfl
theorem tf217:fldB Tryz.prog 110 11 11 1 false=true:=by kernel_rfl
theorem tf218:tyB Tryz.prog 101 false 1=true:=by kernel_rfl
theorem tf219:cfB Tryz.prog 78=true:=by kernel_rfl
theorem tf220:cfB Tryz.prog 79=true:=by kernel_rfl
theorem tf221:fldB Tryz.prog 110 13 13 1 false=true:=by kernel_rfl
theorem tf222:tyB Tryz.prog 102 false 1=true:=by kernel_rfl
theorem tf223:cfB Tryz.prog 80=true:=by kernel_rfl
theorem tf224:fldB Tryz.prog 110 14 14 1 false=true:=by kernel_rfl
theorem tf225:tyB Tryz.prog 103 false 1=true:=by kernel_rfl
theorem tf226:cfB Tryz.prog 81=true:=by kernel_rfl
theorem tf227:fldB Tryz.prog 110 15 15 1 false=true:=by kernel_rfl
theorem tf228:tyB Tryz.prog 104 false 1=true:=by kernel_rfl
theorem tf229:cfB Tryz.prog 82=true:=by kernel_rfl
theorem tf230:fldB Tryz.prog 110 16 16 1 false=true:=by kernel_rfl
theorem tf231:tyB Tryz.prog 105 false 1=true:=by kernel_rfl
theorem tf232:cfB Tryz.prog 83=true:=by kernel_rfl
theorem tf233:fldB Tryz.prog 110 17 17 1 false=true:=by kernel_rfl
theorem tf234:tyB Tryz.prog 106 false 1=true:=by kernel_rfl
theorem tf235:cfB Tryz.prog 84=true:=by kernel_rfl
theorem tf236:fldB Tryz.prog 110 18 18 1 false=true:=by kernel_rfl
theorem tf237:tyB Tryz.prog 107 false 1=true:=by kernel_rfl
theorem tf238:cfB Tryz.prog 85=true:=by kernel_rfl
theorem tf239:fldB Tryz.prog 110 19 19 1 false=true:=by kernel_rfl
theorem tf240:tyB Tryz.prog 108 false 1=true:=by kernel_rfl
theorem tf241:cfB Tryz.prog 86=true:=by kernel_rfl
theorem tf242:stB Tryz.prog 110 [(0,1),(1,1),(2,1),(3,1),(4,1),(5,1),(6,1),(7,1),(8,1),(9,1),(10,1),(11,1),(12,1),(13,1),(14,1),(15,1),(16,1),(17,1),(18,1),(19,1)]=true:=by kernel_rfl
theorem tf243:(Tryz.prog.info? 110).bind (·.zero)=some (.agg #[.slice none 0 0,.slice none 0 0,.slice none 0 0,.slice none 0 0,.slice none 0 0,.slice none 0 0,.slice none 0 0,.slice none 0 0,.slice none 0 0,.slice none 0 0,.slice none 0 0,.slice none 0 0,.slice none 0 0,.slice none 0 0,.slice none 0 0,.slice none 0 0,.slice none 0 0,.slice none 0 0,.slice none 0 0,.slice none 0 0]):=by kernel_rfl
theorem tf244:cfB Tryz.prog 47=true:=by kernel_rfl
theorem tf245:cfB Tryz.prog 48=true:=by kernel_rfl
theorem tf246:cfB Tryz.prog 45=true:=by kernel_rfl
set_option maxHeartbeats 4000000 in
theorem flatLimbs_nil(β:Base)(w:World)(hw:St β [] w):Calls Tryz.prog 67 #[.slice none 0 0] w fun r w'=>r= .returned (.bool true)∧St β [] w':=by
 refine enter (n:=200) Tryz.func67 rfl Tryz.ntmps67 rfl ?_ hw
 refine c_seq ?_
 refine c_region ?_
 refine l_val (v:= .bool false) rfl rfl rfl (e_assign) ?_
 refine l_nil ?_
 refine f_then ?_
 refine c_seq ?_
 refine c_seq ?_
 refine c_region ?_
 refine l_val (v:= .int .i64 (0)) rfl rfl rfl (e_assign) ?_
 refine l_nil ?_
 refine f_then ?_
 refine c_block ?_
 refine c_loop (fun(x_:Unit) (f:Fm) (L:List Res)=>match x_ with|()=>(f 0= .slice none 0 0∧f 3= .int .i64 (0))∧L=[]∧(True)) (fun(x_:Unit)=>match x_ with|()=>0) () ?_ ?_
 ·exact⟨⟨rfl,rfl⟩,rfl,trivial⟩
 rintro⟨⟩ f0 L0 ⟨⟨hs0,hs3⟩,hL,-⟩
 subst L0
 refine rebase (d:=0) hs0 ?_
 refine rebase (d:=3) hs3 ?_
 clear hs0 hs3
 refine c_seq ?_
 refine c_seq ?_
 refine c_region ?_
 refine l_val (v:= .int .i64 (0)) rfl rfl rfl (e_move) ?_
 refine l_val (v:= .slice none 0 0) rfl rfl rfl (e_move) ?_
 refine l_val (v:= .int .i64 (0)) rfl rfl rfl (e_len (n:=0) rfl tf125) ?_
 refine l_val (v:= .bool false) rfl rfl rfl (e_lss (a:=(0:Int)) (b:=(0:Int)) rfl rfl) ?_
 refine l_nil ?_
 refine f_then ?_
 refine c_no rfl ?_
 refine c_exit ?_
 refine f_then_exit ?_
 refine f_then_exit ?_
 refine f_exit ?_
 refine f_then ?_
 refine c_seq ?_
 refine c_region ?_
 refine l_val (v:= .slice none 0 0) rfl rfl rfl (e_move) ?_
 refine l_val (v:= .int .i64 (0)) rfl rfl rfl (e_len (n:=0) rfl tf125) ?_
 refine l_mv rfl rfl rfl (m_make00 tf126 rfl rfl) ?_
 rintro _ _ ⟨b1,rfl,rfl⟩
 refine l_val (v:= .slice (some ⟨b1,0,none⟩) 0 0) rfl rfl rfl (e_assign) ?_
 refine l_nil ?_
 refine f_then ?_
 refine c_seq ?_
 refine c_seq ?_
 refine c_region ?_
 refine l_val (v:= .int .i64 (0)) rfl rfl rfl (e_assign) ?_
 refine l_nil ?_
 refine f_then ?_
 refine c_block ?_
 refine c_loop (fun(x_:Unit) (f:Fm) (L:List Res)=>match x_ with|()=>(f 0= .slice none 0 0∧f 5= .slice (some ⟨b1,0,none⟩) 0 0∧f 6= .int .i64 (0))∧L=[pt b1 (.cells #[] 163)]∧(True)) (fun(x_:Unit)=>match x_ with|()=>0) () ?_ ?_
 ·exact⟨⟨rfl,rfl,rfl⟩,rfl,trivial⟩
 rintro⟨⟩ f0 L0 ⟨⟨hs0,hs5,hs6⟩,hL,-⟩
 subst L0
 refine rebase (d:=0) hs0 ?_
 refine rebase (d:=5) hs5 ?_
 refine rebase (d:=6) hs6 ?_
 clear hs0 hs5 hs6
 refine c_seq ?_
 refine c_seq ?_
 refine c_region ?_
 refine l_val (v:= .int .i64 (0)) rfl rfl rfl (e_move) ?_
 refine l_val (v:= .slice none 0 0) rfl rfl rfl (e_move) ?_
 refine l_val (v:= .int .i64 (0)) rfl rfl rfl (e_len (n:=0) rfl tf125) ?_
 refine l_val (v:= .bool false) rfl rfl rfl (e_lss (a:=(0:Int)) (b:=(0:Int)) rfl rfl) ?_
 refine l_nil ?_
 refine f_then ?_
 refine c_no rfl ?_
 refine c_exit ?_
 refine f_then_exit ?_
 refine f_then_exit ?_
 refine f_exit ?_
 refine f_then ?_
 refine c_seq ?_
 refine c_seq ?_
 refine c_region ?_
 refine l_val (v:= .int .i64 (0)) rfl rfl rfl (e_assign) ?_
 refine l_nil ?_
 refine f_then ?_
 refine c_block ?_
 refine c_loop (fun(x_:Unit) (f:Fm) (L:List Res)=>match x_ with|()=>(f 0= .slice none 0 0∧f 5= .slice (some ⟨b1,0,none⟩) 0 0∧f 9= .int .i64 (0))∧L=[pt b1 (.cells #[] 163)]∧(True)) (fun(x_:Unit)=>match x_ with|()=>0) () ?_ ?_
 ·exact⟨⟨rfl,rfl,rfl⟩,rfl,trivial⟩
 rintro⟨⟩ f0 L0 ⟨⟨hs0,hs5,hs9⟩,hL,-⟩
 subst L0
 refine rebase (d:=0) hs0 ?_
 refine rebase (d:=5) hs5 ?_
 refine rebase (d:=9) hs9 ?_
 clear hs0 hs5 hs9
 refine c_seq ?_
 refine c_seq ?_
 refine c_region ?_
 refine l_val (v:= .int .i64 (0)) rfl rfl rfl (e_move) ?_
 refine l_val (v:= .slice none 0 0) rfl rfl rfl (e_move) ?_
 refine l_val (v:= .int .i64 (0)) rfl rfl rfl (e_len (n:=0) rfl tf125) ?_
 refine l_val (v:= .bool false) rfl rfl rfl (e_lss (a:=(0:Int)) (b:=(0:Int)) rfl rfl) ?_
 refine l_nil ?_
 refine f_then ?_
 refine c_no rfl ?_
 refine c_exit ?_
 refine f_then_exit ?_
 refine f_then_exit ?_
 refine f_exit ?_
 refine f_then ?_
 refine c_seq ?_
 refine c_seq ?_
 refine c_region ?_
 refine l_val (v:= .int .i64 (0)) rfl rfl rfl (e_assign) ?_
 refine l_nil ?_
 refine f_then ?_
 refine c_block ?_
 refine c_loop (fun(x_:Unit) (f:Fm) (L:List Res)=>match x_ with|()=>(f 0= .slice none 0 0∧f 5= .slice (some ⟨b1,0,none⟩) 0 0∧f 11= .int .i64 (0))∧L=[pt b1 (.cells #[] 163)]∧(True)) (fun(x_:Unit)=>match x_ with|()=>0) () ?_ ?_
 ·exact⟨⟨rfl,rfl,rfl⟩,rfl,trivial⟩
 rintro⟨⟩ f0 L0 ⟨⟨hs0,hs5,hs11⟩,hL,-⟩
 subst L0
 refine rebase (d:=0) hs0 ?_
 refine rebase (d:=5) hs5 ?_
 refine rebase (d:=11) hs11 ?_
 clear hs0 hs5 hs11
 refine c_seq ?_
 refine c_seq ?_
 refine c_region ?_
 refine l_val (v:= .int .i64 (0)) rfl rfl rfl (e_move) ?_
 refine l_val (v:= .slice none 0 0) rfl rfl rfl (e_move) ?_
 refine l_val (v:= .int .i64 (0)) rfl rfl rfl (e_len (n:=0) rfl tf125) ?_
 refine l_val (v:= .bool false) rfl rfl rfl (e_lss (a:=(0:Int)) (b:=(0:Int)) rfl rfl) ?_
 refine l_nil ?_
 refine f_then ?_
 refine c_no rfl ?_
 refine c_exit ?_
 refine f_then_exit ?_
 refine f_then_exit ?_
 refine f_exit ?_
 refine f_then ?_
 refine c_seq ?_
 refine c_seq ?_
 refine c_region ?_
 refine l_val (v:= .int .i64 (0)) rfl rfl rfl (e_assign) ?_
 refine l_nil ?_
 refine f_then ?_
 refine c_block ?_
 refine c_loop (fun(x_:Unit) (f:Fm) (L:List Res)=>match x_ with|()=>(f 0= .slice none 0 0∧f 5= .slice (some ⟨b1,0,none⟩) 0 0∧f 14= .int .i64 (0))∧L=[pt b1 (.cells #[] 163)]∧(True)) (fun(x_:Unit)=>match x_ with|()=>0) () ?_ ?_
 ·exact⟨⟨rfl,rfl,rfl⟩,rfl,trivial⟩
 rintro⟨⟩ f0 L0 ⟨⟨hs0,hs5,hs14⟩,hL,-⟩
 subst L0
 refine rebase (d:=0) hs0 ?_
 refine rebase (d:=5) hs5 ?_
 refine rebase (d:=14) hs14 ?_
 clear hs0 hs5 hs14
 refine c_seq ?_
 refine c_seq ?_
 refine c_region ?_
 refine l_val (v:= .int .i64 (0)) rfl rfl rfl (e_move) ?_
 refine l_val (v:= .slice none 0 0) rfl rfl rfl (e_move) ?_
 refine l_val (v:= .int .i64 (0)) rfl rfl rfl (e_len (n:=0) rfl tf125) ?_
 refine l_val (v:= .bool false) rfl rfl rfl (e_lss (a:=(0:Int)) (b:=(0:Int)) rfl rfl) ?_
 refine l_nil ?_
 refine f_then ?_
 refine c_no rfl ?_
 refine c_exit ?_
 refine f_then_exit ?_
 refine f_then_exit ?_
 refine f_exit ?_
 refine f_then ?_
 refine c_seq ?_
 refine c_region ?_
 refine l_val (v:= .bool true) rfl rfl rfl (e_assign) ?_
 refine l_nil ?_
 refine f_then ?_
 refine c_ret ?_
 refine ret1 Tryz.results67 (v:= .bool true) rfl ?_
 intro w hw
 exact⟨rfl,st_mask [false] rfl hw⟩
set_option maxHeartbeats 4000000 in
theorem flatInts_nil(β:Base)(w:World)(hw:St β [] w):Calls Tryz.prog 68 #[.slice none 0 0] w fun r w'=>r= .returned (.bool true)∧St β [] w':=by
 refine enter (n:=193) Tryz.func68 rfl Tryz.ntmps68 rfl ?_ hw
 refine c_seq ?_
 refine c_region ?_
 refine l_val (v:= .bool false) rfl rfl rfl (e_assign) ?_
 refine l_nil ?_
 refine f_then ?_
 refine c_seq ?_
 refine c_seq ?_
 refine c_region ?_
 refine l_val (v:= .int .i64 (0)) rfl rfl rfl (e_assign) ?_
 refine l_nil ?_
 refine f_then ?_
 refine c_block ?_
 refine c_loop (fun(x_:Unit) (f:Fm) (L:List Res)=>match x_ with|()=>(f 0= .slice none 0 0∧f 3= .int .i64 (0))∧L=[]∧(True)) (fun(x_:Unit)=>match x_ with|()=>0) () ?_ ?_
 ·exact⟨⟨rfl,rfl⟩,rfl,trivial⟩
 rintro⟨⟩ f0 L0 ⟨⟨hs0,hs3⟩,hL,-⟩
 subst L0
 refine rebase (d:=0) hs0 ?_
 refine rebase (d:=3) hs3 ?_
 clear hs0 hs3
 refine c_seq ?_
 refine c_seq ?_
 refine c_region ?_
 refine l_val (v:= .int .i64 (0)) rfl rfl rfl (e_move) ?_
 refine l_val (v:= .slice none 0 0) rfl rfl rfl (e_move) ?_
 refine l_val (v:= .int .i64 (0)) rfl rfl rfl (e_len (n:=0) rfl tf128) ?_
 refine l_val (v:= .bool false) rfl rfl rfl (e_lss (a:=(0:Int)) (b:=(0:Int)) rfl rfl) ?_
 refine l_nil ?_
 refine f_then ?_
 refine c_no rfl ?_
 refine c_exit ?_
 refine f_then_exit ?_
 refine f_then_exit ?_
 refine f_exit ?_
 refine f_then ?_
 refine c_seq ?_
 refine c_region ?_
 refine l_val (v:= .slice none 0 0) rfl rfl rfl (e_move) ?_
 refine l_val (v:= .int .i64 (0)) rfl rfl rfl (e_len (n:=0) rfl tf128) ?_
 refine l_mv rfl rfl rfl (m_make00 tf129 rfl rfl) ?_
 rintro _ _ ⟨b1,rfl,rfl⟩
 refine l_val (v:= .slice (some ⟨b1,0,none⟩) 0 0) rfl rfl rfl (e_assign) ?_
 refine l_nil ?_
 refine f_then ?_
 refine c_seq ?_
 refine c_seq ?_
 refine c_region ?_
 refine l_val (v:= .int .i64 (0)) rfl rfl rfl (e_assign) ?_
 refine l_nil ?_
 refine f_then ?_
 refine c_block ?_
 refine c_loop (fun(x_:Unit) (f:Fm) (L:List Res)=>match x_ with|()=>(f 0= .slice none 0 0∧f 5= .slice (some ⟨b1,0,none⟩) 0 0∧f 6= .int .i64 (0))∧L=[pt b1 (.cells #[] 27)]∧(True)) (fun(x_:Unit)=>match x_ with|()=>0) () ?_ ?_
 ·exact⟨⟨rfl,rfl,rfl⟩,rfl,trivial⟩
 rintro⟨⟩ f0 L0 ⟨⟨hs0,hs5,hs6⟩,hL,-⟩
 subst L0
 refine rebase (d:=0) hs0 ?_
 refine rebase (d:=5) hs5 ?_
 refine rebase (d:=6) hs6 ?_
 clear hs0 hs5 hs6
 refine c_seq ?_
 refine c_seq ?_
 refine c_region ?_
 refine l_val (v:= .int .i64 (0)) rfl rfl rfl (e_move) ?_
 refine l_val (v:= .slice none 0 0) rfl rfl rfl (e_move) ?_
 refine l_val (v:= .int .i64 (0)) rfl rfl rfl (e_len (n:=0) rfl tf128) ?_
 refine l_val (v:= .bool false) rfl rfl rfl (e_lss (a:=(0:Int)) (b:=(0:Int)) rfl rfl) ?_
 refine l_nil ?_
 refine f_then ?_
 refine c_no rfl ?_
 refine c_exit ?_
 refine f_then_exit ?_
 refine f_then_exit ?_
 refine f_exit ?_
 refine f_then ?_
 refine c_seq ?_
 refine c_seq ?_
 refine c_region ?_
 refine l_val (v:= .int .i64 (0)) rfl rfl rfl (e_assign) ?_
 refine l_nil ?_
 refine f_then ?_
 refine c_block ?_
 refine c_loop (fun(x_:Unit) (f:Fm) (L:List Res)=>match x_ with|()=>(f 0= .slice none 0 0∧f 5= .slice (some ⟨b1,0,none⟩) 0 0∧f 9= .int .i64 (0))∧L=[pt b1 (.cells #[] 27)]∧(True)) (fun(x_:Unit)=>match x_ with|()=>0) () ?_ ?_
 ·exact⟨⟨rfl,rfl,rfl⟩,rfl,trivial⟩
 rintro⟨⟩ f0 L0 ⟨⟨hs0,hs5,hs9⟩,hL,-⟩
 subst L0
 refine rebase (d:=0) hs0 ?_
 refine rebase (d:=5) hs5 ?_
 refine rebase (d:=9) hs9 ?_
 clear hs0 hs5 hs9
 refine c_seq ?_
 refine c_seq ?_
 refine c_region ?_
 refine l_val (v:= .int .i64 (0)) rfl rfl rfl (e_move) ?_
 refine l_val (v:= .slice none 0 0) rfl rfl rfl (e_move) ?_
 refine l_val (v:= .int .i64 (0)) rfl rfl rfl (e_len (n:=0) rfl tf128) ?_
 refine l_val (v:= .bool false) rfl rfl rfl (e_lss (a:=(0:Int)) (b:=(0:Int)) rfl rfl) ?_
 refine l_nil ?_
 refine f_then ?_
 refine c_no rfl ?_
 refine c_exit ?_
 refine f_then_exit ?_
 refine f_then_exit ?_
 refine f_exit ?_
 refine f_then ?_
 refine c_seq ?_
 refine c_seq ?_
 refine c_region ?_
 refine l_val (v:= .int .i64 (0)) rfl rfl rfl (e_assign) ?_
 refine l_nil ?_
 refine f_then ?_
 refine c_block ?_
 refine c_loop (fun(x_:Unit) (f:Fm) (L:List Res)=>match x_ with|()=>(f 0= .slice none 0 0∧f 5= .slice (some ⟨b1,0,none⟩) 0 0∧f 11= .int .i64 (0))∧L=[pt b1 (.cells #[] 27)]∧(True)) (fun(x_:Unit)=>match x_ with|()=>0) () ?_ ?_
 ·exact⟨⟨rfl,rfl,rfl⟩,rfl,trivial⟩
 rintro⟨⟩ f0 L0 ⟨⟨hs0,hs5,hs11⟩,hL,-⟩
 subst L0
 refine rebase (d:=0) hs0 ?_
 refine rebase (d:=5) hs5 ?_
 refine rebase (d:=11) hs11 ?_
 clear hs0 hs5 hs11
 refine c_seq ?_
 refine c_seq ?_
 refine c_region ?_
 refine l_val (v:= .int .i64 (0)) rfl rfl rfl (e_move) ?_
 refine l_val (v:= .slice none 0 0) rfl rfl rfl (e_move) ?_
 refine l_val (v:= .int .i64 (0)) rfl rfl rfl (e_len (n:=0) rfl tf128) ?_
 refine l_val (v:= .bool false) rfl rfl rfl (e_lss (a:=(0:Int)) (b:=(0:Int)) rfl rfl) ?_
 refine l_nil ?_
 refine f_then ?_
 refine c_no rfl ?_
 refine c_exit ?_
 refine f_then_exit ?_
 refine f_then_exit ?_
 refine f_exit ?_
 refine f_then ?_
 refine c_seq ?_
 refine c_seq ?_
 refine c_region ?_
 refine l_val (v:= .int .i64 (0)) rfl rfl rfl (e_assign) ?_
 refine l_nil ?_
 refine f_then ?_
 refine c_block ?_
 refine c_loop (fun(x_:Unit) (f:Fm) (L:List Res)=>match x_ with|()=>(f 0= .slice none 0 0∧f 5= .slice (some ⟨b1,0,none⟩) 0 0∧f 14= .int .i64 (0))∧L=[pt b1 (.cells #[] 27)]∧(True)) (fun(x_:Unit)=>match x_ with|()=>0) () ?_ ?_
 ·exact⟨⟨rfl,rfl,rfl⟩,rfl,trivial⟩
 rintro⟨⟩ f0 L0 ⟨⟨hs0,hs5,hs14⟩,hL,-⟩
 subst L0
 refine rebase (d:=0) hs0 ?_
 refine rebase (d:=5) hs5 ?_
 refine rebase (d:=14) hs14 ?_
 clear hs0 hs5 hs14
 refine c_seq ?_
 refine c_seq ?_
 refine c_region ?_
 refine l_val (v:= .int .i64 (0)) rfl rfl rfl (e_move) ?_
 refine l_val (v:= .slice none 0 0) rfl rfl rfl (e_move) ?_
 refine l_val (v:= .int .i64 (0)) rfl rfl rfl (e_len (n:=0) rfl tf128) ?_
 refine l_val (v:= .bool false) rfl rfl rfl (e_lss (a:=(0:Int)) (b:=(0:Int)) rfl rfl) ?_
 refine l_nil ?_
 refine f_then ?_
 refine c_no rfl ?_
 refine c_exit ?_
 refine f_then_exit ?_
 refine f_then_exit ?_
 refine f_exit ?_
 refine f_then ?_
 refine c_seq ?_
 refine c_region ?_
 refine l_val (v:= .bool true) rfl rfl rfl (e_assign) ?_
 refine l_nil ?_
 refine f_then ?_
 refine c_ret ?_
 refine ret1 Tryz.results68 (v:= .bool true) rfl ?_
 intro w hw
 exact⟨rfl,st_mask [false] rfl hw⟩
set_option maxHeartbeats 4000000 in
theorem flatTexts_nil(β:Base)(w:World)(hw:St β [] w):Calls Tryz.prog 69 #[.slice none 0 0] w fun r w'=>r= .returned (.bool true)∧St β [] w':=by
 refine enter (n:=193) Tryz.func69 rfl Tryz.ntmps69 rfl ?_ hw
 refine c_seq ?_
 refine c_region ?_
 refine l_val (v:= .bool false) rfl rfl rfl (e_assign) ?_
 refine l_nil ?_
 refine f_then ?_
 refine c_seq ?_
 refine c_seq ?_
 refine c_region ?_
 refine l_val (v:= .int .i64 (0)) rfl rfl rfl (e_assign) ?_
 refine l_nil ?_
 refine f_then ?_
 refine c_block ?_
 refine c_loop (fun(x_:Unit) (f:Fm) (L:List Res)=>match x_ with|()=>(f 0= .slice none 0 0∧f 3= .int .i64 (0))∧L=[]∧(True)) (fun(x_:Unit)=>match x_ with|()=>0) () ?_ ?_
 ·exact⟨⟨rfl,rfl⟩,rfl,trivial⟩
 rintro⟨⟩ f0 L0 ⟨⟨hs0,hs3⟩,hL,-⟩
 subst L0
 refine rebase (d:=0) hs0 ?_
 refine rebase (d:=3) hs3 ?_
 clear hs0 hs3
 refine c_seq ?_
 refine c_seq ?_
 refine c_region ?_
 refine l_val (v:= .int .i64 (0)) rfl rfl rfl (e_move) ?_
 refine l_val (v:= .slice none 0 0) rfl rfl rfl (e_move) ?_
 refine l_val (v:= .int .i64 (0)) rfl rfl rfl (e_len (n:=0) rfl tf131) ?_
 refine l_val (v:= .bool false) rfl rfl rfl (e_lss (a:=(0:Int)) (b:=(0:Int)) rfl rfl) ?_
 refine l_nil ?_
 refine f_then ?_
 refine c_no rfl ?_
 refine c_exit ?_
 refine f_then_exit ?_
 refine f_then_exit ?_
 refine f_exit ?_
 refine f_then ?_
 refine c_seq ?_
 refine c_region ?_
 refine l_val (v:= .slice none 0 0) rfl rfl rfl (e_move) ?_
 refine l_val (v:= .int .i64 (0)) rfl rfl rfl (e_len (n:=0) rfl tf131) ?_
 refine l_mv rfl rfl rfl (m_make00 tf132 rfl rfl) ?_
 rintro _ _ ⟨b1,rfl,rfl⟩
 refine l_val (v:= .slice (some ⟨b1,0,none⟩) 0 0) rfl rfl rfl (e_assign) ?_
 refine l_nil ?_
 refine f_then ?_
 refine c_seq ?_
 refine c_seq ?_
 refine c_region ?_
 refine l_val (v:= .int .i64 (0)) rfl rfl rfl (e_assign) ?_
 refine l_nil ?_
 refine f_then ?_
 refine c_block ?_
 refine c_loop (fun(x_:Unit) (f:Fm) (L:List Res)=>match x_ with|()=>(f 0= .slice none 0 0∧f 5= .slice (some ⟨b1,0,none⟩) 0 0∧f 6= .int .i64 (0))∧L=[pt b1 (.cells #[] 165)]∧(True)) (fun(x_:Unit)=>match x_ with|()=>0) () ?_ ?_
 ·exact⟨⟨rfl,rfl,rfl⟩,rfl,trivial⟩
 rintro⟨⟩ f0 L0 ⟨⟨hs0,hs5,hs6⟩,hL,-⟩
 subst L0
 refine rebase (d:=0) hs0 ?_
 refine rebase (d:=5) hs5 ?_
 refine rebase (d:=6) hs6 ?_
 clear hs0 hs5 hs6
 refine c_seq ?_
 refine c_seq ?_
 refine c_region ?_
 refine l_val (v:= .int .i64 (0)) rfl rfl rfl (e_move) ?_
 refine l_val (v:= .slice none 0 0) rfl rfl rfl (e_move) ?_
 refine l_val (v:= .int .i64 (0)) rfl rfl rfl (e_len (n:=0) rfl tf131) ?_
 refine l_val (v:= .bool false) rfl rfl rfl (e_lss (a:=(0:Int)) (b:=(0:Int)) rfl rfl) ?_
 refine l_nil ?_
 refine f_then ?_
 refine c_no rfl ?_
 refine c_exit ?_
 refine f_then_exit ?_
 refine f_then_exit ?_
 refine f_exit ?_
 refine f_then ?_
 refine c_seq ?_
 refine c_seq ?_
 refine c_region ?_
 refine l_val (v:= .int .i64 (0)) rfl rfl rfl (e_assign) ?_
 refine l_nil ?_
 refine f_then ?_
 refine c_block ?_
 refine c_loop (fun(x_:Unit) (f:Fm) (L:List Res)=>match x_ with|()=>(f 0= .slice none 0 0∧f 5= .slice (some ⟨b1,0,none⟩) 0 0∧f 9= .int .i64 (0))∧L=[pt b1 (.cells #[] 165)]∧(True)) (fun(x_:Unit)=>match x_ with|()=>0) () ?_ ?_
 ·exact⟨⟨rfl,rfl,rfl⟩,rfl,trivial⟩
 rintro⟨⟩ f0 L0 ⟨⟨hs0,hs5,hs9⟩,hL,-⟩
 subst L0
 refine rebase (d:=0) hs0 ?_
 refine rebase (d:=5) hs5 ?_
 refine rebase (d:=9) hs9 ?_
 clear hs0 hs5 hs9
 refine c_seq ?_
 refine c_seq ?_
 refine c_region ?_
 refine l_val (v:= .int .i64 (0)) rfl rfl rfl (e_move) ?_
 refine l_val (v:= .slice none 0 0) rfl rfl rfl (e_move) ?_
 refine l_val (v:= .int .i64 (0)) rfl rfl rfl (e_len (n:=0) rfl tf131) ?_
 refine l_val (v:= .bool false) rfl rfl rfl (e_lss (a:=(0:Int)) (b:=(0:Int)) rfl rfl) ?_
 refine l_nil ?_
 refine f_then ?_
 refine c_no rfl ?_
 refine c_exit ?_
 refine f_then_exit ?_
 refine f_then_exit ?_
 refine f_exit ?_
 refine f_then ?_
 refine c_seq ?_
 refine c_seq ?_
 refine c_region ?_
 refine l_val (v:= .int .i64 (0)) rfl rfl rfl (e_assign) ?_
 refine l_nil ?_
 refine f_then ?_
 refine c_block ?_
 refine c_loop (fun(x_:Unit) (f:Fm) (L:List Res)=>match x_ with|()=>(f 0= .slice none 0 0∧f 5= .slice (some ⟨b1,0,none⟩) 0 0∧f 11= .int .i64 (0))∧L=[pt b1 (.cells #[] 165)]∧(True)) (fun(x_:Unit)=>match x_ with|()=>0) () ?_ ?_
 ·exact⟨⟨rfl,rfl,rfl⟩,rfl,trivial⟩
 rintro⟨⟩ f0 L0 ⟨⟨hs0,hs5,hs11⟩,hL,-⟩
 subst L0
 refine rebase (d:=0) hs0 ?_
 refine rebase (d:=5) hs5 ?_
 refine rebase (d:=11) hs11 ?_
 clear hs0 hs5 hs11
 refine c_seq ?_
 refine c_seq ?_
 refine c_region ?_
 refine l_val (v:= .int .i64 (0)) rfl rfl rfl (e_move) ?_
 refine l_val (v:= .slice none 0 0) rfl rfl rfl (e_move) ?_
 refine l_val (v:= .int .i64 (0)) rfl rfl rfl (e_len (n:=0) rfl tf131) ?_
 refine l_val (v:= .bool false) rfl rfl rfl (e_lss (a:=(0:Int)) (b:=(0:Int)) rfl rfl) ?_
 refine l_nil ?_
 refine f_then ?_
 refine c_no rfl ?_
 refine c_exit ?_
 refine f_then_exit ?_
 refine f_then_exit ?_
 refine f_exit ?_
 refine f_then ?_
 refine c_seq ?_
 refine c_seq ?_
 refine c_region ?_
 refine l_val (v:= .int .i64 (0)) rfl rfl rfl (e_assign) ?_
 refine l_nil ?_
 refine f_then ?_
 refine c_block ?_
 refine c_loop (fun(x_:Unit) (f:Fm) (L:List Res)=>match x_ with|()=>(f 0= .slice none 0 0∧f 5= .slice (some ⟨b1,0,none⟩) 0 0∧f 14= .int .i64 (0))∧L=[pt b1 (.cells #[] 165)]∧(True)) (fun(x_:Unit)=>match x_ with|()=>0) () ?_ ?_
 ·exact⟨⟨rfl,rfl,rfl⟩,rfl,trivial⟩
 rintro⟨⟩ f0 L0 ⟨⟨hs0,hs5,hs14⟩,hL,-⟩
 subst L0
 refine rebase (d:=0) hs0 ?_
 refine rebase (d:=5) hs5 ?_
 refine rebase (d:=14) hs14 ?_
 clear hs0 hs5 hs14
 refine c_seq ?_
 refine c_seq ?_
 refine c_region ?_
 refine l_val (v:= .int .i64 (0)) rfl rfl rfl (e_move) ?_
 refine l_val (v:= .slice none 0 0) rfl rfl rfl (e_move) ?_
 refine l_val (v:= .int .i64 (0)) rfl rfl rfl (e_len (n:=0) rfl tf131) ?_
 refine l_val (v:= .bool false) rfl rfl rfl (e_lss (a:=(0:Int)) (b:=(0:Int)) rfl rfl) ?_
 refine l_nil ?_
 refine f_then ?_
 refine c_no rfl ?_
 refine c_exit ?_
 refine f_then_exit ?_
 refine f_then_exit ?_
 refine f_exit ?_
 refine f_then ?_
 refine c_seq ?_
 refine c_region ?_
 refine l_val (v:= .bool true) rfl rfl rfl (e_assign) ?_
 refine l_nil ?_
 refine f_then ?_
 refine c_ret ?_
 refine ret1 Tryz.results69 (v:= .bool true) rfl ?_
 intro w hw
 exact⟨rfl,st_mask [false] rfl hw⟩
set_option maxHeartbeats 4000000 in
theorem flatBytes_nil(β:Base)(w:World)(hw:St β [] w):Calls Tryz.prog 70 #[.slice none 0 0] w fun r w'=>r= .returned (.bool true)∧St β [] w':=by
 refine enter (n:=193) Tryz.func70 rfl Tryz.ntmps70 rfl ?_ hw
 refine c_seq ?_
 refine c_region ?_
 refine l_val (v:= .bool false) rfl rfl rfl (e_assign) ?_
 refine l_nil ?_
 refine f_then ?_
 refine c_seq ?_
 refine c_seq ?_
 refine c_region ?_
 refine l_val (v:= .int .i64 (0)) rfl rfl rfl (e_assign) ?_
 refine l_nil ?_
 refine f_then ?_
 refine c_block ?_
 refine c_loop (fun(x_:Unit) (f:Fm) (L:List Res)=>match x_ with|()=>(f 0= .slice none 0 0∧f 3= .int .i64 (0))∧L=[]∧(True)) (fun(x_:Unit)=>match x_ with|()=>0) () ?_ ?_
 ·exact⟨⟨rfl,rfl⟩,rfl,trivial⟩
 rintro⟨⟩ f0 L0 ⟨⟨hs0,hs3⟩,hL,-⟩
 subst L0
 refine rebase (d:=0) hs0 ?_
 refine rebase (d:=3) hs3 ?_
 clear hs0 hs3
 refine c_seq ?_
 refine c_seq ?_
 refine c_region ?_
 refine l_val (v:= .int .i64 (0)) rfl rfl rfl (e_move) ?_
 refine l_val (v:= .slice none 0 0) rfl rfl rfl (e_move) ?_
 refine l_val (v:= .int .i64 (0)) rfl rfl rfl (e_len (n:=0) rfl tf134) ?_
 refine l_val (v:= .bool false) rfl rfl rfl (e_lss (a:=(0:Int)) (b:=(0:Int)) rfl rfl) ?_
 refine l_nil ?_
 refine f_then ?_
 refine c_no rfl ?_
 refine c_exit ?_
 refine f_then_exit ?_
 refine f_then_exit ?_
 refine f_exit ?_
 refine f_then ?_
 refine c_seq ?_
 refine c_region ?_
 refine l_val (v:= .slice none 0 0) rfl rfl rfl (e_move) ?_
 refine l_val (v:= .int .i64 (0)) rfl rfl rfl (e_len (n:=0) rfl tf134) ?_
 refine l_mv rfl rfl rfl (m_make00 tf135 rfl rfl) ?_
 rintro _ _ ⟨b1,rfl,rfl⟩
 refine l_val (v:= .slice (some ⟨b1,0,none⟩) 0 0) rfl rfl rfl (e_assign) ?_
 refine l_nil ?_
 refine f_then ?_
 refine c_seq ?_
 refine c_seq ?_
 refine c_region ?_
 refine l_val (v:= .int .i64 (0)) rfl rfl rfl (e_assign) ?_
 refine l_nil ?_
 refine f_then ?_
 refine c_block ?_
 refine c_loop (fun(x_:Unit) (f:Fm) (L:List Res)=>match x_ with|()=>(f 0= .slice none 0 0∧f 5= .slice (some ⟨b1,0,none⟩) 0 0∧f 6= .int .i64 (0))∧L=[pt b1 (.cells #[] 167)]∧(True)) (fun(x_:Unit)=>match x_ with|()=>0) () ?_ ?_
 ·exact⟨⟨rfl,rfl,rfl⟩,rfl,trivial⟩
 rintro⟨⟩ f0 L0 ⟨⟨hs0,hs5,hs6⟩,hL,-⟩
 subst L0
 refine rebase (d:=0) hs0 ?_
 refine rebase (d:=5) hs5 ?_
 refine rebase (d:=6) hs6 ?_
 clear hs0 hs5 hs6
 refine c_seq ?_
 refine c_seq ?_
 refine c_region ?_
 refine l_val (v:= .int .i64 (0)) rfl rfl rfl (e_move) ?_
 refine l_val (v:= .slice none 0 0) rfl rfl rfl (e_move) ?_
 refine l_val (v:= .int .i64 (0)) rfl rfl rfl (e_len (n:=0) rfl tf134) ?_
 refine l_val (v:= .bool false) rfl rfl rfl (e_lss (a:=(0:Int)) (b:=(0:Int)) rfl rfl) ?_
 refine l_nil ?_
 refine f_then ?_
 refine c_no rfl ?_
 refine c_exit ?_
 refine f_then_exit ?_
 refine f_then_exit ?_
 refine f_exit ?_
 refine f_then ?_
 refine c_seq ?_
 refine c_seq ?_
 refine c_region ?_
 refine l_val (v:= .int .i64 (0)) rfl rfl rfl (e_assign) ?_
 refine l_nil ?_
 refine f_then ?_
 refine c_block ?_
 refine c_loop (fun(x_:Unit) (f:Fm) (L:List Res)=>match x_ with|()=>(f 0= .slice none 0 0∧f 5= .slice (some ⟨b1,0,none⟩) 0 0∧f 9= .int .i64 (0))∧L=[pt b1 (.cells #[] 167)]∧(True)) (fun(x_:Unit)=>match x_ with|()=>0) () ?_ ?_
 ·exact⟨⟨rfl,rfl,rfl⟩,rfl,trivial⟩
 rintro⟨⟩ f0 L0 ⟨⟨hs0,hs5,hs9⟩,hL,-⟩
 subst L0
 refine rebase (d:=0) hs0 ?_
 refine rebase (d:=5) hs5 ?_
 refine rebase (d:=9) hs9 ?_
 clear hs0 hs5 hs9
 refine c_seq ?_
 refine c_seq ?_
 refine c_region ?_
 refine l_val (v:= .int .i64 (0)) rfl rfl rfl (e_move) ?_
 refine l_val (v:= .slice none 0 0) rfl rfl rfl (e_move) ?_
 refine l_val (v:= .int .i64 (0)) rfl rfl rfl (e_len (n:=0) rfl tf134) ?_
 refine l_val (v:= .bool false) rfl rfl rfl (e_lss (a:=(0:Int)) (b:=(0:Int)) rfl rfl) ?_
 refine l_nil ?_
 refine f_then ?_
 refine c_no rfl ?_
 refine c_exit ?_
 refine f_then_exit ?_
 refine f_then_exit ?_
 refine f_exit ?_
 refine f_then ?_
 refine c_seq ?_
 refine c_seq ?_
 refine c_region ?_
 refine l_val (v:= .int .i64 (0)) rfl rfl rfl (e_assign) ?_
 refine l_nil ?_
 refine f_then ?_
 refine c_block ?_
 refine c_loop (fun(x_:Unit) (f:Fm) (L:List Res)=>match x_ with|()=>(f 0= .slice none 0 0∧f 5= .slice (some ⟨b1,0,none⟩) 0 0∧f 11= .int .i64 (0))∧L=[pt b1 (.cells #[] 167)]∧(True)) (fun(x_:Unit)=>match x_ with|()=>0) () ?_ ?_
 ·exact⟨⟨rfl,rfl,rfl⟩,rfl,trivial⟩
 rintro⟨⟩ f0 L0 ⟨⟨hs0,hs5,hs11⟩,hL,-⟩
 subst L0
 refine rebase (d:=0) hs0 ?_
 refine rebase (d:=5) hs5 ?_
 refine rebase (d:=11) hs11 ?_
 clear hs0 hs5 hs11
 refine c_seq ?_
 refine c_seq ?_
 refine c_region ?_
 refine l_val (v:= .int .i64 (0)) rfl rfl rfl (e_move) ?_
 refine l_val (v:= .slice none 0 0) rfl rfl rfl (e_move) ?_
 refine l_val (v:= .int .i64 (0)) rfl rfl rfl (e_len (n:=0) rfl tf134) ?_
 refine l_val (v:= .bool false) rfl rfl rfl (e_lss (a:=(0:Int)) (b:=(0:Int)) rfl rfl) ?_
 refine l_nil ?_
 refine f_then ?_
 refine c_no rfl ?_
 refine c_exit ?_
 refine f_then_exit ?_
 refine f_then_exit ?_
 refine f_exit ?_
 refine f_then ?_
 refine c_seq ?_
 refine c_seq ?_
 refine c_region ?_
 refine l_val (v:= .int .i64 (0)) rfl rfl rfl (e_assign) ?_
 refine l_nil ?_
 refine f_then ?_
 refine c_block ?_
 refine c_loop (fun(x_:Unit) (f:Fm) (L:List Res)=>match x_ with|()=>(f 0= .slice none 0 0∧f 5= .slice (some ⟨b1,0,none⟩) 0 0∧f 14= .int .i64 (0))∧L=[pt b1 (.cells #[] 167)]∧(True)) (fun(x_:Unit)=>match x_ with|()=>0) () ?_ ?_
 ·exact⟨⟨rfl,rfl,rfl⟩,rfl,trivial⟩
 rintro⟨⟩ f0 L0 ⟨⟨hs0,hs5,hs14⟩,hL,-⟩
 subst L0
 refine rebase (d:=0) hs0 ?_
 refine rebase (d:=5) hs5 ?_
 refine rebase (d:=14) hs14 ?_
 clear hs0 hs5 hs14
 refine c_seq ?_
 refine c_seq ?_
 refine c_region ?_
 refine l_val (v:= .int .i64 (0)) rfl rfl rfl (e_move) ?_
 refine l_val (v:= .slice none 0 0) rfl rfl rfl (e_move) ?_
 refine l_val (v:= .int .i64 (0)) rfl rfl rfl (e_len (n:=0) rfl tf134) ?_
 refine l_val (v:= .bool false) rfl rfl rfl (e_lss (a:=(0:Int)) (b:=(0:Int)) rfl rfl) ?_
 refine l_nil ?_
 refine f_then ?_
 refine c_no rfl ?_
 refine c_exit ?_
 refine f_then_exit ?_
 refine f_then_exit ?_
 refine f_exit ?_
 refine f_then ?_
 refine c_seq ?_
 refine c_region ?_
 refine l_val (v:= .bool true) rfl rfl rfl (e_assign) ?_
 refine l_nil ?_
 refine f_then ?_
 refine c_ret ?_
 refine ret1 Tryz.results70 (v:= .bool true) rfl ?_
 intro w hw
 exact⟨rfl,st_mask [false] rfl hw⟩
set_option maxHeartbeats 4000000 in
theorem flatComps_nil(β:Base)(w:World)(hw:St β [] w):Calls Tryz.prog 71 #[.slice none 0 0] w fun r w'=>r= .returned (.bool true)∧St β [] w':=by
 refine enter (n:=193) Tryz.func71 rfl Tryz.ntmps71 rfl ?_ hw
 refine c_seq ?_
 refine c_region ?_
 refine l_val (v:= .bool false) rfl rfl rfl (e_assign) ?_
 refine l_nil ?_
 refine f_then ?_
 refine c_seq ?_
 refine c_seq ?_
 refine c_region ?_
 refine l_val (v:= .int .i64 (0)) rfl rfl rfl (e_assign) ?_
 refine l_nil ?_
 refine f_then ?_
 refine c_block ?_
 refine c_loop (fun(x_:Unit) (f:Fm) (L:List Res)=>match x_ with|()=>(f 0= .slice none 0 0∧f 3= .int .i64 (0))∧L=[]∧(True)) (fun(x_:Unit)=>match x_ with|()=>0) () ?_ ?_
 ·exact⟨⟨rfl,rfl⟩,rfl,trivial⟩
 rintro⟨⟩ f0 L0 ⟨⟨hs0,hs3⟩,hL,-⟩
 subst L0
 refine rebase (d:=0) hs0 ?_
 refine rebase (d:=3) hs3 ?_
 clear hs0 hs3
 refine c_seq ?_
 refine c_seq ?_
 refine c_region ?_
 refine l_val (v:= .int .i64 (0)) rfl rfl rfl (e_move) ?_
 refine l_val (v:= .slice none 0 0) rfl rfl rfl (e_move) ?_
 refine l_val (v:= .int .i64 (0)) rfl rfl rfl (e_len (n:=0) rfl tf137) ?_
 refine l_val (v:= .bool false) rfl rfl rfl (e_lss (a:=(0:Int)) (b:=(0:Int)) rfl rfl) ?_
 refine l_nil ?_
 refine f_then ?_
 refine c_no rfl ?_
 refine c_exit ?_
 refine f_then_exit ?_
 refine f_then_exit ?_
 refine f_exit ?_
 refine f_then ?_
 refine c_seq ?_
 refine c_region ?_
 refine l_val (v:= .slice none 0 0) rfl rfl rfl (e_move) ?_
 refine l_val (v:= .int .i64 (0)) rfl rfl rfl (e_len (n:=0) rfl tf137) ?_
 refine l_mv rfl rfl rfl (m_make00 tf138 rfl rfl) ?_
 rintro _ _ ⟨b1,rfl,rfl⟩
 refine l_val (v:= .slice (some ⟨b1,0,none⟩) 0 0) rfl rfl rfl (e_assign) ?_
 refine l_nil ?_
 refine f_then ?_
 refine c_seq ?_
 refine c_seq ?_
 refine c_region ?_
 refine l_val (v:= .int .i64 (0)) rfl rfl rfl (e_assign) ?_
 refine l_nil ?_
 refine f_then ?_
 refine c_block ?_
 refine c_loop (fun(x_:Unit) (f:Fm) (L:List Res)=>match x_ with|()=>(f 0= .slice none 0 0∧f 5= .slice (some ⟨b1,0,none⟩) 0 0∧f 6= .int .i64 (0))∧L=[pt b1 (.cells #[] 169)]∧(True)) (fun(x_:Unit)=>match x_ with|()=>0) () ?_ ?_
 ·exact⟨⟨rfl,rfl,rfl⟩,rfl,trivial⟩
 rintro⟨⟩ f0 L0 ⟨⟨hs0,hs5,hs6⟩,hL,-⟩
 subst L0
 refine rebase (d:=0) hs0 ?_
 refine rebase (d:=5) hs5 ?_
 refine rebase (d:=6) hs6 ?_
 clear hs0 hs5 hs6
 refine c_seq ?_
 refine c_seq ?_
 refine c_region ?_
 refine l_val (v:= .int .i64 (0)) rfl rfl rfl (e_move) ?_
 refine l_val (v:= .slice none 0 0) rfl rfl rfl (e_move) ?_
 refine l_val (v:= .int .i64 (0)) rfl rfl rfl (e_len (n:=0) rfl tf137) ?_
 refine l_val (v:= .bool false) rfl rfl rfl (e_lss (a:=(0:Int)) (b:=(0:Int)) rfl rfl) ?_
 refine l_nil ?_
 refine f_then ?_
 refine c_no rfl ?_
 refine c_exit ?_
 refine f_then_exit ?_
 refine f_then_exit ?_
 refine f_exit ?_
 refine f_then ?_
 refine c_seq ?_
 refine c_seq ?_
 refine c_region ?_
 refine l_val (v:= .int .i64 (0)) rfl rfl rfl (e_assign) ?_
 refine l_nil ?_
 refine f_then ?_
 refine c_block ?_
 refine c_loop (fun(x_:Unit) (f:Fm) (L:List Res)=>match x_ with|()=>(f 0= .slice none 0 0∧f 5= .slice (some ⟨b1,0,none⟩) 0 0∧f 9= .int .i64 (0))∧L=[pt b1 (.cells #[] 169)]∧(True)) (fun(x_:Unit)=>match x_ with|()=>0) () ?_ ?_
 ·exact⟨⟨rfl,rfl,rfl⟩,rfl,trivial⟩
 rintro⟨⟩ f0 L0 ⟨⟨hs0,hs5,hs9⟩,hL,-⟩
 subst L0
 refine rebase (d:=0) hs0 ?_
 refine rebase (d:=5) hs5 ?_
 refine rebase (d:=9) hs9 ?_
 clear hs0 hs5 hs9
 refine c_seq ?_
 refine c_seq ?_
 refine c_region ?_
 refine l_val (v:= .int .i64 (0)) rfl rfl rfl (e_move) ?_
 refine l_val (v:= .slice none 0 0) rfl rfl rfl (e_move) ?_
 refine l_val (v:= .int .i64 (0)) rfl rfl rfl (e_len (n:=0) rfl tf137) ?_
 refine l_val (v:= .bool false) rfl rfl rfl (e_lss (a:=(0:Int)) (b:=(0:Int)) rfl rfl) ?_
 refine l_nil ?_
 refine f_then ?_
 refine c_no rfl ?_
 refine c_exit ?_
 refine f_then_exit ?_
 refine f_then_exit ?_
 refine f_exit ?_
 refine f_then ?_
 refine c_seq ?_
 refine c_seq ?_
 refine c_region ?_
 refine l_val (v:= .int .i64 (0)) rfl rfl rfl (e_assign) ?_
 refine l_nil ?_
 refine f_then ?_
 refine c_block ?_
 refine c_loop (fun(x_:Unit) (f:Fm) (L:List Res)=>match x_ with|()=>(f 0= .slice none 0 0∧f 5= .slice (some ⟨b1,0,none⟩) 0 0∧f 11= .int .i64 (0))∧L=[pt b1 (.cells #[] 169)]∧(True)) (fun(x_:Unit)=>match x_ with|()=>0) () ?_ ?_
 ·exact⟨⟨rfl,rfl,rfl⟩,rfl,trivial⟩
 rintro⟨⟩ f0 L0 ⟨⟨hs0,hs5,hs11⟩,hL,-⟩
 subst L0
 refine rebase (d:=0) hs0 ?_
 refine rebase (d:=5) hs5 ?_
 refine rebase (d:=11) hs11 ?_
 clear hs0 hs5 hs11
 refine c_seq ?_
 refine c_seq ?_
 refine c_region ?_
 refine l_val (v:= .int .i64 (0)) rfl rfl rfl (e_move) ?_
 refine l_val (v:= .slice none 0 0) rfl rfl rfl (e_move) ?_
 refine l_val (v:= .int .i64 (0)) rfl rfl rfl (e_len (n:=0) rfl tf137) ?_
 refine l_val (v:= .bool false) rfl rfl rfl (e_lss (a:=(0:Int)) (b:=(0:Int)) rfl rfl) ?_
 refine l_nil ?_
 refine f_then ?_
 refine c_no rfl ?_
 refine c_exit ?_
 refine f_then_exit ?_
 refine f_then_exit ?_
 refine f_exit ?_
 refine f_then ?_
 refine c_seq ?_
 refine c_seq ?_
 refine c_region ?_
 refine l_val (v:= .int .i64 (0)) rfl rfl rfl (e_assign) ?_
 refine l_nil ?_
 refine f_then ?_
 refine c_block ?_
 refine c_loop (fun(x_:Unit) (f:Fm) (L:List Res)=>match x_ with|()=>(f 0= .slice none 0 0∧f 5= .slice (some ⟨b1,0,none⟩) 0 0∧f 14= .int .i64 (0))∧L=[pt b1 (.cells #[] 169)]∧(True)) (fun(x_:Unit)=>match x_ with|()=>0) () ?_ ?_
 ·exact⟨⟨rfl,rfl,rfl⟩,rfl,trivial⟩
 rintro⟨⟩ f0 L0 ⟨⟨hs0,hs5,hs14⟩,hL,-⟩
 subst L0
 refine rebase (d:=0) hs0 ?_
 refine rebase (d:=5) hs5 ?_
 refine rebase (d:=14) hs14 ?_
 clear hs0 hs5 hs14
 refine c_seq ?_
 refine c_seq ?_
 refine c_region ?_
 refine l_val (v:= .int .i64 (0)) rfl rfl rfl (e_move) ?_
 refine l_val (v:= .slice none 0 0) rfl rfl rfl (e_move) ?_
 refine l_val (v:= .int .i64 (0)) rfl rfl rfl (e_len (n:=0) rfl tf137) ?_
 refine l_val (v:= .bool false) rfl rfl rfl (e_lss (a:=(0:Int)) (b:=(0:Int)) rfl rfl) ?_
 refine l_nil ?_
 refine f_then ?_
 refine c_no rfl ?_
 refine c_exit ?_
 refine f_then_exit ?_
 refine f_then_exit ?_
 refine f_exit ?_
 refine f_then ?_
 refine c_seq ?_
 refine c_region ?_
 refine l_val (v:= .bool true) rfl rfl rfl (e_assign) ?_
 refine l_nil ?_
 refine f_then ?_
 refine c_ret ?_
 refine ret1 Tryz.results71 (v:= .bool true) rfl ?_
 intro w hw
 exact⟨rfl,st_mask [false] rfl hw⟩
set_option maxHeartbeats 4000000 in
theorem flatEntities_nil(β:Base)(w:World)(hw:St β [] w):Calls Tryz.prog 72 #[.slice none 0 0] w fun r w'=>r= .returned (.bool true)∧St β [] w':=by
 refine enter (n:=193) Tryz.func72 rfl Tryz.ntmps72 rfl ?_ hw
 refine c_seq ?_
 refine c_region ?_
 refine l_val (v:= .bool false) rfl rfl rfl (e_assign) ?_
 refine l_nil ?_
 refine f_then ?_
 refine c_seq ?_
 refine c_seq ?_
 refine c_region ?_
 refine l_val (v:= .int .i64 (0)) rfl rfl rfl (e_assign) ?_
 refine l_nil ?_
 refine f_then ?_
 refine c_block ?_
 refine c_loop (fun(x_:Unit) (f:Fm) (L:List Res)=>match x_ with|()=>(f 0= .slice none 0 0∧f 3= .int .i64 (0))∧L=[]∧(True)) (fun(x_:Unit)=>match x_ with|()=>0) () ?_ ?_
 ·exact⟨⟨rfl,rfl⟩,rfl,trivial⟩
 rintro⟨⟩ f0 L0 ⟨⟨hs0,hs3⟩,hL,-⟩
 subst L0
 refine rebase (d:=0) hs0 ?_
 refine rebase (d:=3) hs3 ?_
 clear hs0 hs3
 refine c_seq ?_
 refine c_seq ?_
 refine c_region ?_
 refine l_val (v:= .int .i64 (0)) rfl rfl rfl (e_move) ?_
 refine l_val (v:= .slice none 0 0) rfl rfl rfl (e_move) ?_
 refine l_val (v:= .int .i64 (0)) rfl rfl rfl (e_len (n:=0) rfl tf140) ?_
 refine l_val (v:= .bool false) rfl rfl rfl (e_lss (a:=(0:Int)) (b:=(0:Int)) rfl rfl) ?_
 refine l_nil ?_
 refine f_then ?_
 refine c_no rfl ?_
 refine c_exit ?_
 refine f_then_exit ?_
 refine f_then_exit ?_
 refine f_exit ?_
 refine f_then ?_
 refine c_seq ?_
 refine c_region ?_
 refine l_val (v:= .slice none 0 0) rfl rfl rfl (e_move) ?_
 refine l_val (v:= .int .i64 (0)) rfl rfl rfl (e_len (n:=0) rfl tf140) ?_
 refine l_mv rfl rfl rfl (m_make00 tf141 rfl rfl) ?_
 rintro _ _ ⟨b1,rfl,rfl⟩
 refine l_val (v:= .slice (some ⟨b1,0,none⟩) 0 0) rfl rfl rfl (e_assign) ?_
 refine l_nil ?_
 refine f_then ?_
 refine c_seq ?_
 refine c_seq ?_
 refine c_region ?_
 refine l_val (v:= .int .i64 (0)) rfl rfl rfl (e_assign) ?_
 refine l_nil ?_
 refine f_then ?_
 refine c_block ?_
 refine c_loop (fun(x_:Unit) (f:Fm) (L:List Res)=>match x_ with|()=>(f 0= .slice none 0 0∧f 5= .slice (some ⟨b1,0,none⟩) 0 0∧f 6= .int .i64 (0))∧L=[pt b1 (.cells #[] 174)]∧(True)) (fun(x_:Unit)=>match x_ with|()=>0) () ?_ ?_
 ·exact⟨⟨rfl,rfl,rfl⟩,rfl,trivial⟩
 rintro⟨⟩ f0 L0 ⟨⟨hs0,hs5,hs6⟩,hL,-⟩
 subst L0
 refine rebase (d:=0) hs0 ?_
 refine rebase (d:=5) hs5 ?_
 refine rebase (d:=6) hs6 ?_
 clear hs0 hs5 hs6
 refine c_seq ?_
 refine c_seq ?_
 refine c_region ?_
 refine l_val (v:= .int .i64 (0)) rfl rfl rfl (e_move) ?_
 refine l_val (v:= .slice none 0 0) rfl rfl rfl (e_move) ?_
 refine l_val (v:= .int .i64 (0)) rfl rfl rfl (e_len (n:=0) rfl tf140) ?_
 refine l_val (v:= .bool false) rfl rfl rfl (e_lss (a:=(0:Int)) (b:=(0:Int)) rfl rfl) ?_
 refine l_nil ?_
 refine f_then ?_
 refine c_no rfl ?_
 refine c_exit ?_
 refine f_then_exit ?_
 refine f_then_exit ?_
 refine f_exit ?_
 refine f_then ?_
 refine c_seq ?_
 refine c_seq ?_
 refine c_region ?_
 refine l_val (v:= .int .i64 (0)) rfl rfl rfl (e_assign) ?_
 refine l_nil ?_
 refine f_then ?_
 refine c_block ?_
 refine c_loop (fun(x_:Unit) (f:Fm) (L:List Res)=>match x_ with|()=>(f 0= .slice none 0 0∧f 5= .slice (some ⟨b1,0,none⟩) 0 0∧f 9= .int .i64 (0))∧L=[pt b1 (.cells #[] 174)]∧(True)) (fun(x_:Unit)=>match x_ with|()=>0) () ?_ ?_
 ·exact⟨⟨rfl,rfl,rfl⟩,rfl,trivial⟩
 rintro⟨⟩ f0 L0 ⟨⟨hs0,hs5,hs9⟩,hL,-⟩
 subst L0
 refine rebase (d:=0) hs0 ?_
 refine rebase (d:=5) hs5 ?_
 refine rebase (d:=9) hs9 ?_
 clear hs0 hs5 hs9
 refine c_seq ?_
 refine c_seq ?_
 refine c_region ?_
 refine l_val (v:= .int .i64 (0)) rfl rfl rfl (e_move) ?_
 refine l_val (v:= .slice none 0 0) rfl rfl rfl (e_move) ?_
 refine l_val (v:= .int .i64 (0)) rfl rfl rfl (e_len (n:=0) rfl tf140) ?_
 refine l_val (v:= .bool false) rfl rfl rfl (e_lss (a:=(0:Int)) (b:=(0:Int)) rfl rfl) ?_
 refine l_nil ?_
 refine f_then ?_
 refine c_no rfl ?_
 refine c_exit ?_
 refine f_then_exit ?_
 refine f_then_exit ?_
 refine f_exit ?_
 refine f_then ?_
 refine c_seq ?_
 refine c_seq ?_
 refine c_region ?_
 refine l_val (v:= .int .i64 (0)) rfl rfl rfl (e_assign) ?_
 refine l_nil ?_
 refine f_then ?_
 refine c_block ?_
 refine c_loop (fun(x_:Unit) (f:Fm) (L:List Res)=>match x_ with|()=>(f 0= .slice none 0 0∧f 5= .slice (some ⟨b1,0,none⟩) 0 0∧f 11= .int .i64 (0))∧L=[pt b1 (.cells #[] 174)]∧(True)) (fun(x_:Unit)=>match x_ with|()=>0) () ?_ ?_
 ·exact⟨⟨rfl,rfl,rfl⟩,rfl,trivial⟩
 rintro⟨⟩ f0 L0 ⟨⟨hs0,hs5,hs11⟩,hL,-⟩
 subst L0
 refine rebase (d:=0) hs0 ?_
 refine rebase (d:=5) hs5 ?_
 refine rebase (d:=11) hs11 ?_
 clear hs0 hs5 hs11
 refine c_seq ?_
 refine c_seq ?_
 refine c_region ?_
 refine l_val (v:= .int .i64 (0)) rfl rfl rfl (e_move) ?_
 refine l_val (v:= .slice none 0 0) rfl rfl rfl (e_move) ?_
 refine l_val (v:= .int .i64 (0)) rfl rfl rfl (e_len (n:=0) rfl tf140) ?_
 refine l_val (v:= .bool false) rfl rfl rfl (e_lss (a:=(0:Int)) (b:=(0:Int)) rfl rfl) ?_
 refine l_nil ?_
 refine f_then ?_
 refine c_no rfl ?_
 refine c_exit ?_
 refine f_then_exit ?_
 refine f_then_exit ?_
 refine f_exit ?_
 refine f_then ?_
 refine c_seq ?_
 refine c_seq ?_
 refine c_region ?_
 refine l_val (v:= .int .i64 (0)) rfl rfl rfl (e_assign) ?_
 refine l_nil ?_
 refine f_then ?_
 refine c_block ?_
 refine c_loop (fun(x_:Unit) (f:Fm) (L:List Res)=>match x_ with|()=>(f 0= .slice none 0 0∧f 5= .slice (some ⟨b1,0,none⟩) 0 0∧f 14= .int .i64 (0))∧L=[pt b1 (.cells #[] 174)]∧(True)) (fun(x_:Unit)=>match x_ with|()=>0) () ?_ ?_
 ·exact⟨⟨rfl,rfl,rfl⟩,rfl,trivial⟩
 rintro⟨⟩ f0 L0 ⟨⟨hs0,hs5,hs14⟩,hL,-⟩
 subst L0
 refine rebase (d:=0) hs0 ?_
 refine rebase (d:=5) hs5 ?_
 refine rebase (d:=14) hs14 ?_
 clear hs0 hs5 hs14
 refine c_seq ?_
 refine c_seq ?_
 refine c_region ?_
 refine l_val (v:= .int .i64 (0)) rfl rfl rfl (e_move) ?_
 refine l_val (v:= .slice none 0 0) rfl rfl rfl (e_move) ?_
 refine l_val (v:= .int .i64 (0)) rfl rfl rfl (e_len (n:=0) rfl tf140) ?_
 refine l_val (v:= .bool false) rfl rfl rfl (e_lss (a:=(0:Int)) (b:=(0:Int)) rfl rfl) ?_
 refine l_nil ?_
 refine f_then ?_
 refine c_no rfl ?_
 refine c_exit ?_
 refine f_then_exit ?_
 refine f_then_exit ?_
 refine f_exit ?_
 refine f_then ?_
 refine c_seq ?_
 refine c_region ?_
 refine l_val (v:= .bool true) rfl rfl rfl (e_assign) ?_
 refine l_nil ?_
 refine f_then ?_
 refine c_ret ?_
 refine ret1 Tryz.results72 (v:= .bool true) rfl ?_
 intro w hw
 exact⟨rfl,st_mask [false] rfl hw⟩
set_option maxHeartbeats 4000000 in
theorem flatWorlds_nil(β:Base)(w:World)(hw:St β [] w):Calls Tryz.prog 73 #[.slice none 0 0] w fun r w'=>r= .returned (.bool true)∧St β [] w':=by
 refine enter (n:=193) Tryz.func73 rfl Tryz.ntmps73 rfl ?_ hw
 refine c_seq ?_
 refine c_region ?_
 refine l_val (v:= .bool false) rfl rfl rfl (e_assign) ?_
 refine l_nil ?_
 refine f_then ?_
 refine c_seq ?_
 refine c_seq ?_
 refine c_region ?_
 refine l_val (v:= .int .i64 (0)) rfl rfl rfl (e_assign) ?_
 refine l_nil ?_
 refine f_then ?_
 refine c_block ?_
 refine c_loop (fun(x_:Unit) (f:Fm) (L:List Res)=>match x_ with|()=>(f 0= .slice none 0 0∧f 3= .int .i64 (0))∧L=[]∧(True)) (fun(x_:Unit)=>match x_ with|()=>0) () ?_ ?_
 ·exact⟨⟨rfl,rfl⟩,rfl,trivial⟩
 rintro⟨⟩ f0 L0 ⟨⟨hs0,hs3⟩,hL,-⟩
 subst L0
 refine rebase (d:=0) hs0 ?_
 refine rebase (d:=3) hs3 ?_
 clear hs0 hs3
 refine c_seq ?_
 refine c_seq ?_
 refine c_region ?_
 refine l_val (v:= .int .i64 (0)) rfl rfl rfl (e_move) ?_
 refine l_val (v:= .slice none 0 0) rfl rfl rfl (e_move) ?_
 refine l_val (v:= .int .i64 (0)) rfl rfl rfl (e_len (n:=0) rfl tf143) ?_
 refine l_val (v:= .bool false) rfl rfl rfl (e_lss (a:=(0:Int)) (b:=(0:Int)) rfl rfl) ?_
 refine l_nil ?_
 refine f_then ?_
 refine c_no rfl ?_
 refine c_exit ?_
 refine f_then_exit ?_
 refine f_then_exit ?_
 refine f_exit ?_
 refine f_then ?_
 refine c_seq ?_
 refine c_region ?_
 refine l_val (v:= .slice none 0 0) rfl rfl rfl (e_move) ?_
 refine l_val (v:= .int .i64 (0)) rfl rfl rfl (e_len (n:=0) rfl tf143) ?_
 refine l_mv rfl rfl rfl (m_make00 tf144 rfl rfl) ?_
 rintro _ _ ⟨b1,rfl,rfl⟩
 refine l_val (v:= .slice (some ⟨b1,0,none⟩) 0 0) rfl rfl rfl (e_assign) ?_
 refine l_nil ?_
 refine f_then ?_
 refine c_seq ?_
 refine c_seq ?_
 refine c_region ?_
 refine l_val (v:= .int .i64 (0)) rfl rfl rfl (e_assign) ?_
 refine l_nil ?_
 refine f_then ?_
 refine c_block ?_
 refine c_loop (fun(x_:Unit) (f:Fm) (L:List Res)=>match x_ with|()=>(f 0= .slice none 0 0∧f 5= .slice (some ⟨b1,0,none⟩) 0 0∧f 6= .int .i64 (0))∧L=[pt b1 (.cells #[] 179)]∧(True)) (fun(x_:Unit)=>match x_ with|()=>0) () ?_ ?_
 ·exact⟨⟨rfl,rfl,rfl⟩,rfl,trivial⟩
 rintro⟨⟩ f0 L0 ⟨⟨hs0,hs5,hs6⟩,hL,-⟩
 subst L0
 refine rebase (d:=0) hs0 ?_
 refine rebase (d:=5) hs5 ?_
 refine rebase (d:=6) hs6 ?_
 clear hs0 hs5 hs6
 refine c_seq ?_
 refine c_seq ?_
 refine c_region ?_
 refine l_val (v:= .int .i64 (0)) rfl rfl rfl (e_move) ?_
 refine l_val (v:= .slice none 0 0) rfl rfl rfl (e_move) ?_
 refine l_val (v:= .int .i64 (0)) rfl rfl rfl (e_len (n:=0) rfl tf143) ?_
 refine l_val (v:= .bool false) rfl rfl rfl (e_lss (a:=(0:Int)) (b:=(0:Int)) rfl rfl) ?_
 refine l_nil ?_
 refine f_then ?_
 refine c_no rfl ?_
 refine c_exit ?_
 refine f_then_exit ?_
 refine f_then_exit ?_
 refine f_exit ?_
 refine f_then ?_
 refine c_seq ?_
 refine c_seq ?_
 refine c_region ?_
 refine l_val (v:= .int .i64 (0)) rfl rfl rfl (e_assign) ?_
 refine l_nil ?_
 refine f_then ?_
 refine c_block ?_
 refine c_loop (fun(x_:Unit) (f:Fm) (L:List Res)=>match x_ with|()=>(f 0= .slice none 0 0∧f 5= .slice (some ⟨b1,0,none⟩) 0 0∧f 9= .int .i64 (0))∧L=[pt b1 (.cells #[] 179)]∧(True)) (fun(x_:Unit)=>match x_ with|()=>0) () ?_ ?_
 ·exact⟨⟨rfl,rfl,rfl⟩,rfl,trivial⟩
 rintro⟨⟩ f0 L0 ⟨⟨hs0,hs5,hs9⟩,hL,-⟩
 subst L0
 refine rebase (d:=0) hs0 ?_
 refine rebase (d:=5) hs5 ?_
 refine rebase (d:=9) hs9 ?_
 clear hs0 hs5 hs9
 refine c_seq ?_
 refine c_seq ?_
 refine c_region ?_
 refine l_val (v:= .int .i64 (0)) rfl rfl rfl (e_move) ?_
 refine l_val (v:= .slice none 0 0) rfl rfl rfl (e_move) ?_
 refine l_val (v:= .int .i64 (0)) rfl rfl rfl (e_len (n:=0) rfl tf143) ?_
 refine l_val (v:= .bool false) rfl rfl rfl (e_lss (a:=(0:Int)) (b:=(0:Int)) rfl rfl) ?_
 refine l_nil ?_
 refine f_then ?_
 refine c_no rfl ?_
 refine c_exit ?_
 refine f_then_exit ?_
 refine f_then_exit ?_
 refine f_exit ?_
 refine f_then ?_
 refine c_seq ?_
 refine c_seq ?_
 refine c_region ?_
 refine l_val (v:= .int .i64 (0)) rfl rfl rfl (e_assign) ?_
 refine l_nil ?_
 refine f_then ?_
 refine c_block ?_
 refine c_loop (fun(x_:Unit) (f:Fm) (L:List Res)=>match x_ with|()=>(f 0= .slice none 0 0∧f 5= .slice (some ⟨b1,0,none⟩) 0 0∧f 11= .int .i64 (0))∧L=[pt b1 (.cells #[] 179)]∧(True)) (fun(x_:Unit)=>match x_ with|()=>0) () ?_ ?_
 ·exact⟨⟨rfl,rfl,rfl⟩,rfl,trivial⟩
 rintro⟨⟩ f0 L0 ⟨⟨hs0,hs5,hs11⟩,hL,-⟩
 subst L0
 refine rebase (d:=0) hs0 ?_
 refine rebase (d:=5) hs5 ?_
 refine rebase (d:=11) hs11 ?_
 clear hs0 hs5 hs11
 refine c_seq ?_
 refine c_seq ?_
 refine c_region ?_
 refine l_val (v:= .int .i64 (0)) rfl rfl rfl (e_move) ?_
 refine l_val (v:= .slice none 0 0) rfl rfl rfl (e_move) ?_
 refine l_val (v:= .int .i64 (0)) rfl rfl rfl (e_len (n:=0) rfl tf143) ?_
 refine l_val (v:= .bool false) rfl rfl rfl (e_lss (a:=(0:Int)) (b:=(0:Int)) rfl rfl) ?_
 refine l_nil ?_
 refine f_then ?_
 refine c_no rfl ?_
 refine c_exit ?_
 refine f_then_exit ?_
 refine f_then_exit ?_
 refine f_exit ?_
 refine f_then ?_
 refine c_seq ?_
 refine c_seq ?_
 refine c_region ?_
 refine l_val (v:= .int .i64 (0)) rfl rfl rfl (e_assign) ?_
 refine l_nil ?_
 refine f_then ?_
 refine c_block ?_
 refine c_loop (fun(x_:Unit) (f:Fm) (L:List Res)=>match x_ with|()=>(f 0= .slice none 0 0∧f 5= .slice (some ⟨b1,0,none⟩) 0 0∧f 14= .int .i64 (0))∧L=[pt b1 (.cells #[] 179)]∧(True)) (fun(x_:Unit)=>match x_ with|()=>0) () ?_ ?_
 ·exact⟨⟨rfl,rfl,rfl⟩,rfl,trivial⟩
 rintro⟨⟩ f0 L0 ⟨⟨hs0,hs5,hs14⟩,hL,-⟩
 subst L0
 refine rebase (d:=0) hs0 ?_
 refine rebase (d:=5) hs5 ?_
 refine rebase (d:=14) hs14 ?_
 clear hs0 hs5 hs14
 refine c_seq ?_
 refine c_seq ?_
 refine c_region ?_
 refine l_val (v:= .int .i64 (0)) rfl rfl rfl (e_move) ?_
 refine l_val (v:= .slice none 0 0) rfl rfl rfl (e_move) ?_
 refine l_val (v:= .int .i64 (0)) rfl rfl rfl (e_len (n:=0) rfl tf143) ?_
 refine l_val (v:= .bool false) rfl rfl rfl (e_lss (a:=(0:Int)) (b:=(0:Int)) rfl rfl) ?_
 refine l_nil ?_
 refine f_then ?_
 refine c_no rfl ?_
 refine c_exit ?_
 refine f_then_exit ?_
 refine f_then_exit ?_
 refine f_exit ?_
 refine f_then ?_
 refine c_seq ?_
 refine c_region ?_
 refine l_val (v:= .bool true) rfl rfl rfl (e_assign) ?_
 refine l_nil ?_
 refine f_then ?_
 refine c_ret ?_
 refine ret1 Tryz.results73 (v:= .bool true) rfl ?_
 intro w hw
 exact⟨rfl,st_mask [false] rfl hw⟩
set_option maxHeartbeats 4000000 in
theorem flatVecs_nil(β:Base)(w:World)(hw:St β [] w):Calls Tryz.prog 74 #[.slice none 0 0] w fun r w'=>r= .returned (.bool true)∧St β [] w':=by
 refine enter (n:=193) Tryz.func74 rfl Tryz.ntmps74 rfl ?_ hw
 refine c_seq ?_
 refine c_region ?_
 refine l_val (v:= .bool false) rfl rfl rfl (e_assign) ?_
 refine l_nil ?_
 refine f_then ?_
 refine c_seq ?_
 refine c_seq ?_
 refine c_region ?_
 refine l_val (v:= .int .i64 (0)) rfl rfl rfl (e_assign) ?_
 refine l_nil ?_
 refine f_then ?_
 refine c_block ?_
 refine c_loop (fun(x_:Unit) (f:Fm) (L:List Res)=>match x_ with|()=>(f 0= .slice none 0 0∧f 3= .int .i64 (0))∧L=[]∧(True)) (fun(x_:Unit)=>match x_ with|()=>0) () ?_ ?_
 ·exact⟨⟨rfl,rfl⟩,rfl,trivial⟩
 rintro⟨⟩ f0 L0 ⟨⟨hs0,hs3⟩,hL,-⟩
 subst L0
 refine rebase (d:=0) hs0 ?_
 refine rebase (d:=3) hs3 ?_
 clear hs0 hs3
 refine c_seq ?_
 refine c_seq ?_
 refine c_region ?_
 refine l_val (v:= .int .i64 (0)) rfl rfl rfl (e_move) ?_
 refine l_val (v:= .slice none 0 0) rfl rfl rfl (e_move) ?_
 refine l_val (v:= .int .i64 (0)) rfl rfl rfl (e_len (n:=0) rfl tf146) ?_
 refine l_val (v:= .bool false) rfl rfl rfl (e_lss (a:=(0:Int)) (b:=(0:Int)) rfl rfl) ?_
 refine l_nil ?_
 refine f_then ?_
 refine c_no rfl ?_
 refine c_exit ?_
 refine f_then_exit ?_
 refine f_then_exit ?_
 refine f_exit ?_
 refine f_then ?_
 refine c_seq ?_
 refine c_region ?_
 refine l_val (v:= .slice none 0 0) rfl rfl rfl (e_move) ?_
 refine l_val (v:= .int .i64 (0)) rfl rfl rfl (e_len (n:=0) rfl tf146) ?_
 refine l_mv rfl rfl rfl (m_make00 tf147 rfl rfl) ?_
 rintro _ _ ⟨b1,rfl,rfl⟩
 refine l_val (v:= .slice (some ⟨b1,0,none⟩) 0 0) rfl rfl rfl (e_assign) ?_
 refine l_nil ?_
 refine f_then ?_
 refine c_seq ?_
 refine c_seq ?_
 refine c_region ?_
 refine l_val (v:= .int .i64 (0)) rfl rfl rfl (e_assign) ?_
 refine l_nil ?_
 refine f_then ?_
 refine c_block ?_
 refine c_loop (fun(x_:Unit) (f:Fm) (L:List Res)=>match x_ with|()=>(f 0= .slice none 0 0∧f 5= .slice (some ⟨b1,0,none⟩) 0 0∧f 6= .int .i64 (0))∧L=[pt b1 (.cells #[] 184)]∧(True)) (fun(x_:Unit)=>match x_ with|()=>0) () ?_ ?_
 ·exact⟨⟨rfl,rfl,rfl⟩,rfl,trivial⟩
 rintro⟨⟩ f0 L0 ⟨⟨hs0,hs5,hs6⟩,hL,-⟩
 subst L0
 refine rebase (d:=0) hs0 ?_
 refine rebase (d:=5) hs5 ?_
 refine rebase (d:=6) hs6 ?_
 clear hs0 hs5 hs6
 refine c_seq ?_
 refine c_seq ?_
 refine c_region ?_
 refine l_val (v:= .int .i64 (0)) rfl rfl rfl (e_move) ?_
 refine l_val (v:= .slice none 0 0) rfl rfl rfl (e_move) ?_
 refine l_val (v:= .int .i64 (0)) rfl rfl rfl (e_len (n:=0) rfl tf146) ?_
 refine l_val (v:= .bool false) rfl rfl rfl (e_lss (a:=(0:Int)) (b:=(0:Int)) rfl rfl) ?_
 refine l_nil ?_
 refine f_then ?_
 refine c_no rfl ?_
 refine c_exit ?_
 refine f_then_exit ?_
 refine f_then_exit ?_
 refine f_exit ?_
 refine f_then ?_
 refine c_seq ?_
 refine c_seq ?_
 refine c_region ?_
 refine l_val (v:= .int .i64 (0)) rfl rfl rfl (e_assign) ?_
 refine l_nil ?_
 refine f_then ?_
 refine c_block ?_
 refine c_loop (fun(x_:Unit) (f:Fm) (L:List Res)=>match x_ with|()=>(f 0= .slice none 0 0∧f 5= .slice (some ⟨b1,0,none⟩) 0 0∧f 9= .int .i64 (0))∧L=[pt b1 (.cells #[] 184)]∧(True)) (fun(x_:Unit)=>match x_ with|()=>0) () ?_ ?_
 ·exact⟨⟨rfl,rfl,rfl⟩,rfl,trivial⟩
 rintro⟨⟩ f0 L0 ⟨⟨hs0,hs5,hs9⟩,hL,-⟩
 subst L0
 refine rebase (d:=0) hs0 ?_
 refine rebase (d:=5) hs5 ?_
 refine rebase (d:=9) hs9 ?_
 clear hs0 hs5 hs9
 refine c_seq ?_
 refine c_seq ?_
 refine c_region ?_
 refine l_val (v:= .int .i64 (0)) rfl rfl rfl (e_move) ?_
 refine l_val (v:= .slice none 0 0) rfl rfl rfl (e_move) ?_
 refine l_val (v:= .int .i64 (0)) rfl rfl rfl (e_len (n:=0) rfl tf146) ?_
 refine l_val (v:= .bool false) rfl rfl rfl (e_lss (a:=(0:Int)) (b:=(0:Int)) rfl rfl) ?_
 refine l_nil ?_
 refine f_then ?_
 refine c_no rfl ?_
 refine c_exit ?_
 refine f_then_exit ?_
 refine f_then_exit ?_
 refine f_exit ?_
 refine f_then ?_
 refine c_seq ?_
 refine c_seq ?_
 refine c_region ?_
 refine l_val (v:= .int .i64 (0)) rfl rfl rfl (e_assign) ?_
 refine l_nil ?_
 refine f_then ?_
 refine c_block ?_
 refine c_loop (fun(x_:Unit) (f:Fm) (L:List Res)=>match x_ with|()=>(f 0= .slice none 0 0∧f 5= .slice (some ⟨b1,0,none⟩) 0 0∧f 11= .int .i64 (0))∧L=[pt b1 (.cells #[] 184)]∧(True)) (fun(x_:Unit)=>match x_ with|()=>0) () ?_ ?_
 ·exact⟨⟨rfl,rfl,rfl⟩,rfl,trivial⟩
 rintro⟨⟩ f0 L0 ⟨⟨hs0,hs5,hs11⟩,hL,-⟩
 subst L0
 refine rebase (d:=0) hs0 ?_
 refine rebase (d:=5) hs5 ?_
 refine rebase (d:=11) hs11 ?_
 clear hs0 hs5 hs11
 refine c_seq ?_
 refine c_seq ?_
 refine c_region ?_
 refine l_val (v:= .int .i64 (0)) rfl rfl rfl (e_move) ?_
 refine l_val (v:= .slice none 0 0) rfl rfl rfl (e_move) ?_
 refine l_val (v:= .int .i64 (0)) rfl rfl rfl (e_len (n:=0) rfl tf146) ?_
 refine l_val (v:= .bool false) rfl rfl rfl (e_lss (a:=(0:Int)) (b:=(0:Int)) rfl rfl) ?_
 refine l_nil ?_
 refine f_then ?_
 refine c_no rfl ?_
 refine c_exit ?_
 refine f_then_exit ?_
 refine f_then_exit ?_
 refine f_exit ?_
 refine f_then ?_
 refine c_seq ?_
 refine c_seq ?_
 refine c_region ?_
 refine l_val (v:= .int .i64 (0)) rfl rfl rfl (e_assign) ?_
 refine l_nil ?_
 refine f_then ?_
 refine c_block ?_
 refine c_loop (fun(x_:Unit) (f:Fm) (L:List Res)=>match x_ with|()=>(f 0= .slice none 0 0∧f 5= .slice (some ⟨b1,0,none⟩) 0 0∧f 14= .int .i64 (0))∧L=[pt b1 (.cells #[] 184)]∧(True)) (fun(x_:Unit)=>match x_ with|()=>0) () ?_ ?_
 ·exact⟨⟨rfl,rfl,rfl⟩,rfl,trivial⟩
 rintro⟨⟩ f0 L0 ⟨⟨hs0,hs5,hs14⟩,hL,-⟩
 subst L0
 refine rebase (d:=0) hs0 ?_
 refine rebase (d:=5) hs5 ?_
 refine rebase (d:=14) hs14 ?_
 clear hs0 hs5 hs14
 refine c_seq ?_
 refine c_seq ?_
 refine c_region ?_
 refine l_val (v:= .int .i64 (0)) rfl rfl rfl (e_move) ?_
 refine l_val (v:= .slice none 0 0) rfl rfl rfl (e_move) ?_
 refine l_val (v:= .int .i64 (0)) rfl rfl rfl (e_len (n:=0) rfl tf146) ?_
 refine l_val (v:= .bool false) rfl rfl rfl (e_lss (a:=(0:Int)) (b:=(0:Int)) rfl rfl) ?_
 refine l_nil ?_
 refine f_then ?_
 refine c_no rfl ?_
 refine c_exit ?_
 refine f_then_exit ?_
 refine f_then_exit ?_
 refine f_exit ?_
 refine f_then ?_
 refine c_seq ?_
 refine c_region ?_
 refine l_val (v:= .bool true) rfl rfl rfl (e_assign) ?_
 refine l_nil ?_
 refine f_then ?_
 refine c_ret ?_
 refine ret1 Tryz.results74 (v:= .bool true) rfl ?_
 intro w hw
 exact⟨rfl,st_mask [false] rfl hw⟩
set_option maxHeartbeats 4000000 in
theorem flatBodies_nil(β:Base)(w:World)(hw:St β [] w):Calls Tryz.prog 75 #[.slice none 0 0] w fun r w'=>r= .returned (.bool true)∧St β [] w':=by
 refine enter (n:=193) Tryz.func75 rfl Tryz.ntmps75 rfl ?_ hw
 refine c_seq ?_
 refine c_region ?_
 refine l_val (v:= .bool false) rfl rfl rfl (e_assign) ?_
 refine l_nil ?_
 refine f_then ?_
 refine c_seq ?_
 refine c_seq ?_
 refine c_region ?_
 refine l_val (v:= .int .i64 (0)) rfl rfl rfl (e_assign) ?_
 refine l_nil ?_
 refine f_then ?_
 refine c_block ?_
 refine c_loop (fun(x_:Unit) (f:Fm) (L:List Res)=>match x_ with|()=>(f 0= .slice none 0 0∧f 3= .int .i64 (0))∧L=[]∧(True)) (fun(x_:Unit)=>match x_ with|()=>0) () ?_ ?_
 ·exact⟨⟨rfl,rfl⟩,rfl,trivial⟩
 rintro⟨⟩ f0 L0 ⟨⟨hs0,hs3⟩,hL,-⟩
 subst L0
 refine rebase (d:=0) hs0 ?_
 refine rebase (d:=3) hs3 ?_
 clear hs0 hs3
 refine c_seq ?_
 refine c_seq ?_
 refine c_region ?_
 refine l_val (v:= .int .i64 (0)) rfl rfl rfl (e_move) ?_
 refine l_val (v:= .slice none 0 0) rfl rfl rfl (e_move) ?_
 refine l_val (v:= .int .i64 (0)) rfl rfl rfl (e_len (n:=0) rfl tf149) ?_
 refine l_val (v:= .bool false) rfl rfl rfl (e_lss (a:=(0:Int)) (b:=(0:Int)) rfl rfl) ?_
 refine l_nil ?_
 refine f_then ?_
 refine c_no rfl ?_
 refine c_exit ?_
 refine f_then_exit ?_
 refine f_then_exit ?_
 refine f_exit ?_
 refine f_then ?_
 refine c_seq ?_
 refine c_region ?_
 refine l_val (v:= .slice none 0 0) rfl rfl rfl (e_move) ?_
 refine l_val (v:= .int .i64 (0)) rfl rfl rfl (e_len (n:=0) rfl tf149) ?_
 refine l_mv rfl rfl rfl (m_make00 tf150 rfl rfl) ?_
 rintro _ _ ⟨b1,rfl,rfl⟩
 refine l_val (v:= .slice (some ⟨b1,0,none⟩) 0 0) rfl rfl rfl (e_assign) ?_
 refine l_nil ?_
 refine f_then ?_
 refine c_seq ?_
 refine c_seq ?_
 refine c_region ?_
 refine l_val (v:= .int .i64 (0)) rfl rfl rfl (e_assign) ?_
 refine l_nil ?_
 refine f_then ?_
 refine c_block ?_
 refine c_loop (fun(x_:Unit) (f:Fm) (L:List Res)=>match x_ with|()=>(f 0= .slice none 0 0∧f 5= .slice (some ⟨b1,0,none⟩) 0 0∧f 6= .int .i64 (0))∧L=[pt b1 (.cells #[] 186)]∧(True)) (fun(x_:Unit)=>match x_ with|()=>0) () ?_ ?_
 ·exact⟨⟨rfl,rfl,rfl⟩,rfl,trivial⟩
 rintro⟨⟩ f0 L0 ⟨⟨hs0,hs5,hs6⟩,hL,-⟩
 subst L0
 refine rebase (d:=0) hs0 ?_
 refine rebase (d:=5) hs5 ?_
 refine rebase (d:=6) hs6 ?_
 clear hs0 hs5 hs6
 refine c_seq ?_
 refine c_seq ?_
 refine c_region ?_
 refine l_val (v:= .int .i64 (0)) rfl rfl rfl (e_move) ?_
 refine l_val (v:= .slice none 0 0) rfl rfl rfl (e_move) ?_
 refine l_val (v:= .int .i64 (0)) rfl rfl rfl (e_len (n:=0) rfl tf149) ?_
 refine l_val (v:= .bool false) rfl rfl rfl (e_lss (a:=(0:Int)) (b:=(0:Int)) rfl rfl) ?_
 refine l_nil ?_
 refine f_then ?_
 refine c_no rfl ?_
 refine c_exit ?_
 refine f_then_exit ?_
 refine f_then_exit ?_
 refine f_exit ?_
 refine f_then ?_
 refine c_seq ?_
 refine c_seq ?_
 refine c_region ?_
 refine l_val (v:= .int .i64 (0)) rfl rfl rfl (e_assign) ?_
 refine l_nil ?_
 refine f_then ?_
 refine c_block ?_
 refine c_loop (fun(x_:Unit) (f:Fm) (L:List Res)=>match x_ with|()=>(f 0= .slice none 0 0∧f 5= .slice (some ⟨b1,0,none⟩) 0 0∧f 9= .int .i64 (0))∧L=[pt b1 (.cells #[] 186)]∧(True)) (fun(x_:Unit)=>match x_ with|()=>0) () ?_ ?_
 ·exact⟨⟨rfl,rfl,rfl⟩,rfl,trivial⟩
 rintro⟨⟩ f0 L0 ⟨⟨hs0,hs5,hs9⟩,hL,-⟩
 subst L0
 refine rebase (d:=0) hs0 ?_
 refine rebase (d:=5) hs5 ?_
 refine rebase (d:=9) hs9 ?_
 clear hs0 hs5 hs9
 refine c_seq ?_
 refine c_seq ?_
 refine c_region ?_
 refine l_val (v:= .int .i64 (0)) rfl rfl rfl (e_move) ?_
 refine l_val (v:= .slice none 0 0) rfl rfl rfl (e_move) ?_
 refine l_val (v:= .int .i64 (0)) rfl rfl rfl (e_len (n:=0) rfl tf149) ?_
 refine l_val (v:= .bool false) rfl rfl rfl (e_lss (a:=(0:Int)) (b:=(0:Int)) rfl rfl) ?_
 refine l_nil ?_
 refine f_then ?_
 refine c_no rfl ?_
 refine c_exit ?_
 refine f_then_exit ?_
 refine f_then_exit ?_
 refine f_exit ?_
 refine f_then ?_
 refine c_seq ?_
 refine c_seq ?_
 refine c_region ?_
 refine l_val (v:= .int .i64 (0)) rfl rfl rfl (e_assign) ?_
 refine l_nil ?_
 refine f_then ?_
 refine c_block ?_
 refine c_loop (fun(x_:Unit) (f:Fm) (L:List Res)=>match x_ with|()=>(f 0= .slice none 0 0∧f 5= .slice (some ⟨b1,0,none⟩) 0 0∧f 11= .int .i64 (0))∧L=[pt b1 (.cells #[] 186)]∧(True)) (fun(x_:Unit)=>match x_ with|()=>0) () ?_ ?_
 ·exact⟨⟨rfl,rfl,rfl⟩,rfl,trivial⟩
 rintro⟨⟩ f0 L0 ⟨⟨hs0,hs5,hs11⟩,hL,-⟩
 subst L0
 refine rebase (d:=0) hs0 ?_
 refine rebase (d:=5) hs5 ?_
 refine rebase (d:=11) hs11 ?_
 clear hs0 hs5 hs11
 refine c_seq ?_
 refine c_seq ?_
 refine c_region ?_
 refine l_val (v:= .int .i64 (0)) rfl rfl rfl (e_move) ?_
 refine l_val (v:= .slice none 0 0) rfl rfl rfl (e_move) ?_
 refine l_val (v:= .int .i64 (0)) rfl rfl rfl (e_len (n:=0) rfl tf149) ?_
 refine l_val (v:= .bool false) rfl rfl rfl (e_lss (a:=(0:Int)) (b:=(0:Int)) rfl rfl) ?_
 refine l_nil ?_
 refine f_then ?_
 refine c_no rfl ?_
 refine c_exit ?_
 refine f_then_exit ?_
 refine f_then_exit ?_
 refine f_exit ?_
 refine f_then ?_
 refine c_seq ?_
 refine c_seq ?_
 refine c_region ?_
 refine l_val (v:= .int .i64 (0)) rfl rfl rfl (e_assign) ?_
 refine l_nil ?_
 refine f_then ?_
 refine c_block ?_
 refine c_loop (fun(x_:Unit) (f:Fm) (L:List Res)=>match x_ with|()=>(f 0= .slice none 0 0∧f 5= .slice (some ⟨b1,0,none⟩) 0 0∧f 14= .int .i64 (0))∧L=[pt b1 (.cells #[] 186)]∧(True)) (fun(x_:Unit)=>match x_ with|()=>0) () ?_ ?_
 ·exact⟨⟨rfl,rfl,rfl⟩,rfl,trivial⟩
 rintro⟨⟩ f0 L0 ⟨⟨hs0,hs5,hs14⟩,hL,-⟩
 subst L0
 refine rebase (d:=0) hs0 ?_
 refine rebase (d:=5) hs5 ?_
 refine rebase (d:=14) hs14 ?_
 clear hs0 hs5 hs14
 refine c_seq ?_
 refine c_seq ?_
 refine c_region ?_
 refine l_val (v:= .int .i64 (0)) rfl rfl rfl (e_move) ?_
 refine l_val (v:= .slice none 0 0) rfl rfl rfl (e_move) ?_
 refine l_val (v:= .int .i64 (0)) rfl rfl rfl (e_len (n:=0) rfl tf149) ?_
 refine l_val (v:= .bool false) rfl rfl rfl (e_lss (a:=(0:Int)) (b:=(0:Int)) rfl rfl) ?_
 refine l_nil ?_
 refine f_then ?_
 refine c_no rfl ?_
 refine c_exit ?_
 refine f_then_exit ?_
 refine f_then_exit ?_
 refine f_exit ?_
 refine f_then ?_
 refine c_seq ?_
 refine c_region ?_
 refine l_val (v:= .bool true) rfl rfl rfl (e_assign) ?_
 refine l_nil ?_
 refine f_then ?_
 refine c_ret ?_
 refine ret1 Tryz.results75 (v:= .bool true) rfl ?_
 intro w hw
 exact⟨rfl,st_mask [false] rfl hw⟩
set_option maxHeartbeats 4000000 in
theorem flatSystems_nil(β:Base)(w:World)(hw:St β [] w):Calls Tryz.prog 76 #[.slice none 0 0] w fun r w'=>r= .returned (.bool true)∧St β [] w':=by
 refine enter (n:=193) Tryz.func76 rfl Tryz.ntmps76 rfl ?_ hw
 refine c_seq ?_
 refine c_region ?_
 refine l_val (v:= .bool false) rfl rfl rfl (e_assign) ?_
 refine l_nil ?_
 refine f_then ?_
 refine c_seq ?_
 refine c_seq ?_
 refine c_region ?_
 refine l_val (v:= .int .i64 (0)) rfl rfl rfl (e_assign) ?_
 refine l_nil ?_
 refine f_then ?_
 refine c_block ?_
 refine c_loop (fun(x_:Unit) (f:Fm) (L:List Res)=>match x_ with|()=>(f 0= .slice none 0 0∧f 3= .int .i64 (0))∧L=[]∧(True)) (fun(x_:Unit)=>match x_ with|()=>0) () ?_ ?_
 ·exact⟨⟨rfl,rfl⟩,rfl,trivial⟩
 rintro⟨⟩ f0 L0 ⟨⟨hs0,hs3⟩,hL,-⟩
 subst L0
 refine rebase (d:=0) hs0 ?_
 refine rebase (d:=3) hs3 ?_
 clear hs0 hs3
 refine c_seq ?_
 refine c_seq ?_
 refine c_region ?_
 refine l_val (v:= .int .i64 (0)) rfl rfl rfl (e_move) ?_
 refine l_val (v:= .slice none 0 0) rfl rfl rfl (e_move) ?_
 refine l_val (v:= .int .i64 (0)) rfl rfl rfl (e_len (n:=0) rfl tf152) ?_
 refine l_val (v:= .bool false) rfl rfl rfl (e_lss (a:=(0:Int)) (b:=(0:Int)) rfl rfl) ?_
 refine l_nil ?_
 refine f_then ?_
 refine c_no rfl ?_
 refine c_exit ?_
 refine f_then_exit ?_
 refine f_then_exit ?_
 refine f_exit ?_
 refine f_then ?_
 refine c_seq ?_
 refine c_region ?_
 refine l_val (v:= .slice none 0 0) rfl rfl rfl (e_move) ?_
 refine l_val (v:= .int .i64 (0)) rfl rfl rfl (e_len (n:=0) rfl tf152) ?_
 refine l_mv rfl rfl rfl (m_make00 tf153 rfl rfl) ?_
 rintro _ _ ⟨b1,rfl,rfl⟩
 refine l_val (v:= .slice (some ⟨b1,0,none⟩) 0 0) rfl rfl rfl (e_assign) ?_
 refine l_nil ?_
 refine f_then ?_
 refine c_seq ?_
 refine c_seq ?_
 refine c_region ?_
 refine l_val (v:= .int .i64 (0)) rfl rfl rfl (e_assign) ?_
 refine l_nil ?_
 refine f_then ?_
 refine c_block ?_
 refine c_loop (fun(x_:Unit) (f:Fm) (L:List Res)=>match x_ with|()=>(f 0= .slice none 0 0∧f 5= .slice (some ⟨b1,0,none⟩) 0 0∧f 6= .int .i64 (0))∧L=[pt b1 (.cells #[] 190)]∧(True)) (fun(x_:Unit)=>match x_ with|()=>0) () ?_ ?_
 ·exact⟨⟨rfl,rfl,rfl⟩,rfl,trivial⟩
 rintro⟨⟩ f0 L0 ⟨⟨hs0,hs5,hs6⟩,hL,-⟩
 subst L0
 refine rebase (d:=0) hs0 ?_
 refine rebase (d:=5) hs5 ?_
 refine rebase (d:=6) hs6 ?_
 clear hs0 hs5 hs6
 refine c_seq ?_
 refine c_seq ?_
 refine c_region ?_
 refine l_val (v:= .int .i64 (0)) rfl rfl rfl (e_move) ?_
 refine l_val (v:= .slice none 0 0) rfl rfl rfl (e_move) ?_
 refine l_val (v:= .int .i64 (0)) rfl rfl rfl (e_len (n:=0) rfl tf152) ?_
 refine l_val (v:= .bool false) rfl rfl rfl (e_lss (a:=(0:Int)) (b:=(0:Int)) rfl rfl) ?_
 refine l_nil ?_
 refine f_then ?_
 refine c_no rfl ?_
 refine c_exit ?_
 refine f_then_exit ?_
 refine f_then_exit ?_
 refine f_exit ?_
 refine f_then ?_
 refine c_seq ?_
 refine c_seq ?_
 refine c_region ?_
 refine l_val (v:= .int .i64 (0)) rfl rfl rfl (e_assign) ?_
 refine l_nil ?_
 refine f_then ?_
 refine c_block ?_
 refine c_loop (fun(x_:Unit) (f:Fm) (L:List Res)=>match x_ with|()=>(f 0= .slice none 0 0∧f 5= .slice (some ⟨b1,0,none⟩) 0 0∧f 9= .int .i64 (0))∧L=[pt b1 (.cells #[] 190)]∧(True)) (fun(x_:Unit)=>match x_ with|()=>0) () ?_ ?_
 ·exact⟨⟨rfl,rfl,rfl⟩,rfl,trivial⟩
 rintro⟨⟩ f0 L0 ⟨⟨hs0,hs5,hs9⟩,hL,-⟩
 subst L0
 refine rebase (d:=0) hs0 ?_
 refine rebase (d:=5) hs5 ?_
 refine rebase (d:=9) hs9 ?_
 clear hs0 hs5 hs9
 refine c_seq ?_
 refine c_seq ?_
 refine c_region ?_
 refine l_val (v:= .int .i64 (0)) rfl rfl rfl (e_move) ?_
 refine l_val (v:= .slice none 0 0) rfl rfl rfl (e_move) ?_
 refine l_val (v:= .int .i64 (0)) rfl rfl rfl (e_len (n:=0) rfl tf152) ?_
 refine l_val (v:= .bool false) rfl rfl rfl (e_lss (a:=(0:Int)) (b:=(0:Int)) rfl rfl) ?_
 refine l_nil ?_
 refine f_then ?_
 refine c_no rfl ?_
 refine c_exit ?_
 refine f_then_exit ?_
 refine f_then_exit ?_
 refine f_exit ?_
 refine f_then ?_
 refine c_seq ?_
 refine c_seq ?_
 refine c_region ?_
 refine l_val (v:= .int .i64 (0)) rfl rfl rfl (e_assign) ?_
 refine l_nil ?_
 refine f_then ?_
 refine c_block ?_
 refine c_loop (fun(x_:Unit) (f:Fm) (L:List Res)=>match x_ with|()=>(f 0= .slice none 0 0∧f 5= .slice (some ⟨b1,0,none⟩) 0 0∧f 11= .int .i64 (0))∧L=[pt b1 (.cells #[] 190)]∧(True)) (fun(x_:Unit)=>match x_ with|()=>0) () ?_ ?_
 ·exact⟨⟨rfl,rfl,rfl⟩,rfl,trivial⟩
 rintro⟨⟩ f0 L0 ⟨⟨hs0,hs5,hs11⟩,hL,-⟩
 subst L0
 refine rebase (d:=0) hs0 ?_
 refine rebase (d:=5) hs5 ?_
 refine rebase (d:=11) hs11 ?_
 clear hs0 hs5 hs11
 refine c_seq ?_
 refine c_seq ?_
 refine c_region ?_
 refine l_val (v:= .int .i64 (0)) rfl rfl rfl (e_move) ?_
 refine l_val (v:= .slice none 0 0) rfl rfl rfl (e_move) ?_
 refine l_val (v:= .int .i64 (0)) rfl rfl rfl (e_len (n:=0) rfl tf152) ?_
 refine l_val (v:= .bool false) rfl rfl rfl (e_lss (a:=(0:Int)) (b:=(0:Int)) rfl rfl) ?_
 refine l_nil ?_
 refine f_then ?_
 refine c_no rfl ?_
 refine c_exit ?_
 refine f_then_exit ?_
 refine f_then_exit ?_
 refine f_exit ?_
 refine f_then ?_
 refine c_seq ?_
 refine c_seq ?_
 refine c_region ?_
 refine l_val (v:= .int .i64 (0)) rfl rfl rfl (e_assign) ?_
 refine l_nil ?_
 refine f_then ?_
 refine c_block ?_
 refine c_loop (fun(x_:Unit) (f:Fm) (L:List Res)=>match x_ with|()=>(f 0= .slice none 0 0∧f 5= .slice (some ⟨b1,0,none⟩) 0 0∧f 14= .int .i64 (0))∧L=[pt b1 (.cells #[] 190)]∧(True)) (fun(x_:Unit)=>match x_ with|()=>0) () ?_ ?_
 ·exact⟨⟨rfl,rfl,rfl⟩,rfl,trivial⟩
 rintro⟨⟩ f0 L0 ⟨⟨hs0,hs5,hs14⟩,hL,-⟩
 subst L0
 refine rebase (d:=0) hs0 ?_
 refine rebase (d:=5) hs5 ?_
 refine rebase (d:=14) hs14 ?_
 clear hs0 hs5 hs14
 refine c_seq ?_
 refine c_seq ?_
 refine c_region ?_
 refine l_val (v:= .int .i64 (0)) rfl rfl rfl (e_move) ?_
 refine l_val (v:= .slice none 0 0) rfl rfl rfl (e_move) ?_
 refine l_val (v:= .int .i64 (0)) rfl rfl rfl (e_len (n:=0) rfl tf152) ?_
 refine l_val (v:= .bool false) rfl rfl rfl (e_lss (a:=(0:Int)) (b:=(0:Int)) rfl rfl) ?_
 refine l_nil ?_
 refine f_then ?_
 refine c_no rfl ?_
 refine c_exit ?_
 refine f_then_exit ?_
 refine f_then_exit ?_
 refine f_exit ?_
 refine f_then ?_
 refine c_seq ?_
 refine c_region ?_
 refine l_val (v:= .bool true) rfl rfl rfl (e_assign) ?_
 refine l_nil ?_
 refine f_then ?_
 refine c_ret ?_
 refine ret1 Tryz.results76 (v:= .bool true) rfl ?_
 intro w hw
 exact⟨rfl,st_mask [false] rfl hw⟩
set_option maxHeartbeats 4000000 in
theorem flatInputs_nil(β:Base)(w:World)(hw:St β [] w):Calls Tryz.prog 77 #[.slice none 0 0] w fun r w'=>r= .returned (.bool true)∧St β [] w':=by
 refine enter (n:=193) Tryz.func77 rfl Tryz.ntmps77 rfl ?_ hw
 refine c_seq ?_
 refine c_region ?_
 refine l_val (v:= .bool false) rfl rfl rfl (e_assign) ?_
 refine l_nil ?_
 refine f_then ?_
 refine c_seq ?_
 refine c_seq ?_
 refine c_region ?_
 refine l_val (v:= .int .i64 (0)) rfl rfl rfl (e_assign) ?_
 refine l_nil ?_
 refine f_then ?_
 refine c_block ?_
 refine c_loop (fun(x_:Unit) (f:Fm) (L:List Res)=>match x_ with|()=>(f 0= .slice none 0 0∧f 3= .int .i64 (0))∧L=[]∧(True)) (fun(x_:Unit)=>match x_ with|()=>0) () ?_ ?_
 ·exact⟨⟨rfl,rfl⟩,rfl,trivial⟩
 rintro⟨⟩ f0 L0 ⟨⟨hs0,hs3⟩,hL,-⟩
 subst L0
 refine rebase (d:=0) hs0 ?_
 refine rebase (d:=3) hs3 ?_
 clear hs0 hs3
 refine c_seq ?_
 refine c_seq ?_
 refine c_region ?_
 refine l_val (v:= .int .i64 (0)) rfl rfl rfl (e_move) ?_
 refine l_val (v:= .slice none 0 0) rfl rfl rfl (e_move) ?_
 refine l_val (v:= .int .i64 (0)) rfl rfl rfl (e_len (n:=0) rfl tf155) ?_
 refine l_val (v:= .bool false) rfl rfl rfl (e_lss (a:=(0:Int)) (b:=(0:Int)) rfl rfl) ?_
 refine l_nil ?_
 refine f_then ?_
 refine c_no rfl ?_
 refine c_exit ?_
 refine f_then_exit ?_
 refine f_then_exit ?_
 refine f_exit ?_
 refine f_then ?_
 refine c_seq ?_
 refine c_region ?_
 refine l_val (v:= .slice none 0 0) rfl rfl rfl (e_move) ?_
 refine l_val (v:= .int .i64 (0)) rfl rfl rfl (e_len (n:=0) rfl tf155) ?_
 refine l_mv rfl rfl rfl (m_make00 tf156 rfl rfl) ?_
 rintro _ _ ⟨b1,rfl,rfl⟩
 refine l_val (v:= .slice (some ⟨b1,0,none⟩) 0 0) rfl rfl rfl (e_assign) ?_
 refine l_nil ?_
 refine f_then ?_
 refine c_seq ?_
 refine c_seq ?_
 refine c_region ?_
 refine l_val (v:= .int .i64 (0)) rfl rfl rfl (e_assign) ?_
 refine l_nil ?_
 refine f_then ?_
 refine c_block ?_
 refine c_loop (fun(x_:Unit) (f:Fm) (L:List Res)=>match x_ with|()=>(f 0= .slice none 0 0∧f 5= .slice (some ⟨b1,0,none⟩) 0 0∧f 6= .int .i64 (0))∧L=[pt b1 (.cells #[] 194)]∧(True)) (fun(x_:Unit)=>match x_ with|()=>0) () ?_ ?_
 ·exact⟨⟨rfl,rfl,rfl⟩,rfl,trivial⟩
 rintro⟨⟩ f0 L0 ⟨⟨hs0,hs5,hs6⟩,hL,-⟩
 subst L0
 refine rebase (d:=0) hs0 ?_
 refine rebase (d:=5) hs5 ?_
 refine rebase (d:=6) hs6 ?_
 clear hs0 hs5 hs6
 refine c_seq ?_
 refine c_seq ?_
 refine c_region ?_
 refine l_val (v:= .int .i64 (0)) rfl rfl rfl (e_move) ?_
 refine l_val (v:= .slice none 0 0) rfl rfl rfl (e_move) ?_
 refine l_val (v:= .int .i64 (0)) rfl rfl rfl (e_len (n:=0) rfl tf155) ?_
 refine l_val (v:= .bool false) rfl rfl rfl (e_lss (a:=(0:Int)) (b:=(0:Int)) rfl rfl) ?_
 refine l_nil ?_
 refine f_then ?_
 refine c_no rfl ?_
 refine c_exit ?_
 refine f_then_exit ?_
 refine f_then_exit ?_
 refine f_exit ?_
 refine f_then ?_
 refine c_seq ?_
 refine c_seq ?_
 refine c_region ?_
 refine l_val (v:= .int .i64 (0)) rfl rfl rfl (e_assign) ?_
 refine l_nil ?_
 refine f_then ?_
 refine c_block ?_
 refine c_loop (fun(x_:Unit) (f:Fm) (L:List Res)=>match x_ with|()=>(f 0= .slice none 0 0∧f 5= .slice (some ⟨b1,0,none⟩) 0 0∧f 9= .int .i64 (0))∧L=[pt b1 (.cells #[] 194)]∧(True)) (fun(x_:Unit)=>match x_ with|()=>0) () ?_ ?_
 ·exact⟨⟨rfl,rfl,rfl⟩,rfl,trivial⟩
 rintro⟨⟩ f0 L0 ⟨⟨hs0,hs5,hs9⟩,hL,-⟩
 subst L0
 refine rebase (d:=0) hs0 ?_
 refine rebase (d:=5) hs5 ?_
 refine rebase (d:=9) hs9 ?_
 clear hs0 hs5 hs9
 refine c_seq ?_
 refine c_seq ?_
 refine c_region ?_
 refine l_val (v:= .int .i64 (0)) rfl rfl rfl (e_move) ?_
 refine l_val (v:= .slice none 0 0) rfl rfl rfl (e_move) ?_
 refine l_val (v:= .int .i64 (0)) rfl rfl rfl (e_len (n:=0) rfl tf155) ?_
 refine l_val (v:= .bool false) rfl rfl rfl (e_lss (a:=(0:Int)) (b:=(0:Int)) rfl rfl) ?_
 refine l_nil ?_
 refine f_then ?_
 refine c_no rfl ?_
 refine c_exit ?_
 refine f_then_exit ?_
 refine f_then_exit ?_
 refine f_exit ?_
 refine f_then ?_
 refine c_seq ?_
 refine c_seq ?_
 refine c_region ?_
 refine l_val (v:= .int .i64 (0)) rfl rfl rfl (e_assign) ?_
 refine l_nil ?_
 refine f_then ?_
 refine c_block ?_
 refine c_loop (fun(x_:Unit) (f:Fm) (L:List Res)=>match x_ with|()=>(f 0= .slice none 0 0∧f 5= .slice (some ⟨b1,0,none⟩) 0 0∧f 11= .int .i64 (0))∧L=[pt b1 (.cells #[] 194)]∧(True)) (fun(x_:Unit)=>match x_ with|()=>0) () ?_ ?_
 ·exact⟨⟨rfl,rfl,rfl⟩,rfl,trivial⟩
 rintro⟨⟩ f0 L0 ⟨⟨hs0,hs5,hs11⟩,hL,-⟩
 subst L0
 refine rebase (d:=0) hs0 ?_
 refine rebase (d:=5) hs5 ?_
 refine rebase (d:=11) hs11 ?_
 clear hs0 hs5 hs11
 refine c_seq ?_
 refine c_seq ?_
 refine c_region ?_
 refine l_val (v:= .int .i64 (0)) rfl rfl rfl (e_move) ?_
 refine l_val (v:= .slice none 0 0) rfl rfl rfl (e_move) ?_
 refine l_val (v:= .int .i64 (0)) rfl rfl rfl (e_len (n:=0) rfl tf155) ?_
 refine l_val (v:= .bool false) rfl rfl rfl (e_lss (a:=(0:Int)) (b:=(0:Int)) rfl rfl) ?_
 refine l_nil ?_
 refine f_then ?_
 refine c_no rfl ?_
 refine c_exit ?_
 refine f_then_exit ?_
 refine f_then_exit ?_
 refine f_exit ?_
 refine f_then ?_
 refine c_seq ?_
 refine c_seq ?_
 refine c_region ?_
 refine l_val (v:= .int .i64 (0)) rfl rfl rfl (e_assign) ?_
 refine l_nil ?_
 refine f_then ?_
 refine c_block ?_
 refine c_loop (fun(x_:Unit) (f:Fm) (L:List Res)=>match x_ with|()=>(f 0= .slice none 0 0∧f 5= .slice (some ⟨b1,0,none⟩) 0 0∧f 14= .int .i64 (0))∧L=[pt b1 (.cells #[] 194)]∧(True)) (fun(x_:Unit)=>match x_ with|()=>0) () ?_ ?_
 ·exact⟨⟨rfl,rfl,rfl⟩,rfl,trivial⟩
 rintro⟨⟩ f0 L0 ⟨⟨hs0,hs5,hs14⟩,hL,-⟩
 subst L0
 refine rebase (d:=0) hs0 ?_
 refine rebase (d:=5) hs5 ?_
 refine rebase (d:=14) hs14 ?_
 clear hs0 hs5 hs14
 refine c_seq ?_
 refine c_seq ?_
 refine c_region ?_
 refine l_val (v:= .int .i64 (0)) rfl rfl rfl (e_move) ?_
 refine l_val (v:= .slice none 0 0) rfl rfl rfl (e_move) ?_
 refine l_val (v:= .int .i64 (0)) rfl rfl rfl (e_len (n:=0) rfl tf155) ?_
 refine l_val (v:= .bool false) rfl rfl rfl (e_lss (a:=(0:Int)) (b:=(0:Int)) rfl rfl) ?_
 refine l_nil ?_
 refine f_then ?_
 refine c_no rfl ?_
 refine c_exit ?_
 refine f_then_exit ?_
 refine f_then_exit ?_
 refine f_exit ?_
 refine f_then ?_
 refine c_seq ?_
 refine c_region ?_
 refine l_val (v:= .bool true) rfl rfl rfl (e_assign) ?_
 refine l_nil ?_
 refine f_then ?_
 refine c_ret ?_
 refine ret1 Tryz.results77 (v:= .bool true) rfl ?_
 intro w hw
 exact⟨rfl,st_mask [false] rfl hw⟩
set_option maxHeartbeats 4000000 in
theorem flatAreas_nil(β:Base)(w:World)(hw:St β [] w):Calls Tryz.prog 78 #[.slice none 0 0] w fun r w'=>r= .returned (.bool true)∧St β [] w':=by
 refine enter (n:=193) Tryz.func78 rfl Tryz.ntmps78 rfl ?_ hw
 refine c_seq ?_
 refine c_region ?_
 refine l_val (v:= .bool false) rfl rfl rfl (e_assign) ?_
 refine l_nil ?_
 refine f_then ?_
 refine c_seq ?_
 refine c_seq ?_
 refine c_region ?_
 refine l_val (v:= .int .i64 (0)) rfl rfl rfl (e_assign) ?_
 refine l_nil ?_
 refine f_then ?_
 refine c_block ?_
 refine c_loop (fun(x_:Unit) (f:Fm) (L:List Res)=>match x_ with|()=>(f 0= .slice none 0 0∧f 3= .int .i64 (0))∧L=[]∧(True)) (fun(x_:Unit)=>match x_ with|()=>0) () ?_ ?_
 ·exact⟨⟨rfl,rfl⟩,rfl,trivial⟩
 rintro⟨⟩ f0 L0 ⟨⟨hs0,hs3⟩,hL,-⟩
 subst L0
 refine rebase (d:=0) hs0 ?_
 refine rebase (d:=3) hs3 ?_
 clear hs0 hs3
 refine c_seq ?_
 refine c_seq ?_
 refine c_region ?_
 refine l_val (v:= .int .i64 (0)) rfl rfl rfl (e_move) ?_
 refine l_val (v:= .slice none 0 0) rfl rfl rfl (e_move) ?_
 refine l_val (v:= .int .i64 (0)) rfl rfl rfl (e_len (n:=0) rfl tf158) ?_
 refine l_val (v:= .bool false) rfl rfl rfl (e_lss (a:=(0:Int)) (b:=(0:Int)) rfl rfl) ?_
 refine l_nil ?_
 refine f_then ?_
 refine c_no rfl ?_
 refine c_exit ?_
 refine f_then_exit ?_
 refine f_then_exit ?_
 refine f_exit ?_
 refine f_then ?_
 refine c_seq ?_
 refine c_region ?_
 refine l_val (v:= .slice none 0 0) rfl rfl rfl (e_move) ?_
 refine l_val (v:= .int .i64 (0)) rfl rfl rfl (e_len (n:=0) rfl tf158) ?_
 refine l_mv rfl rfl rfl (m_make00 tf159 rfl rfl) ?_
 rintro _ _ ⟨b1,rfl,rfl⟩
 refine l_val (v:= .slice (some ⟨b1,0,none⟩) 0 0) rfl rfl rfl (e_assign) ?_
 refine l_nil ?_
 refine f_then ?_
 refine c_seq ?_
 refine c_seq ?_
 refine c_region ?_
 refine l_val (v:= .int .i64 (0)) rfl rfl rfl (e_assign) ?_
 refine l_nil ?_
 refine f_then ?_
 refine c_block ?_
 refine c_loop (fun(x_:Unit) (f:Fm) (L:List Res)=>match x_ with|()=>(f 0= .slice none 0 0∧f 5= .slice (some ⟨b1,0,none⟩) 0 0∧f 6= .int .i64 (0))∧L=[pt b1 (.cells #[] 22)]∧(True)) (fun(x_:Unit)=>match x_ with|()=>0) () ?_ ?_
 ·exact⟨⟨rfl,rfl,rfl⟩,rfl,trivial⟩
 rintro⟨⟩ f0 L0 ⟨⟨hs0,hs5,hs6⟩,hL,-⟩
 subst L0
 refine rebase (d:=0) hs0 ?_
 refine rebase (d:=5) hs5 ?_
 refine rebase (d:=6) hs6 ?_
 clear hs0 hs5 hs6
 refine c_seq ?_
 refine c_seq ?_
 refine c_region ?_
 refine l_val (v:= .int .i64 (0)) rfl rfl rfl (e_move) ?_
 refine l_val (v:= .slice none 0 0) rfl rfl rfl (e_move) ?_
 refine l_val (v:= .int .i64 (0)) rfl rfl rfl (e_len (n:=0) rfl tf158) ?_
 refine l_val (v:= .bool false) rfl rfl rfl (e_lss (a:=(0:Int)) (b:=(0:Int)) rfl rfl) ?_
 refine l_nil ?_
 refine f_then ?_
 refine c_no rfl ?_
 refine c_exit ?_
 refine f_then_exit ?_
 refine f_then_exit ?_
 refine f_exit ?_
 refine f_then ?_
 refine c_seq ?_
 refine c_seq ?_
 refine c_region ?_
 refine l_val (v:= .int .i64 (0)) rfl rfl rfl (e_assign) ?_
 refine l_nil ?_
 refine f_then ?_
 refine c_block ?_
 refine c_loop (fun(x_:Unit) (f:Fm) (L:List Res)=>match x_ with|()=>(f 0= .slice none 0 0∧f 5= .slice (some ⟨b1,0,none⟩) 0 0∧f 9= .int .i64 (0))∧L=[pt b1 (.cells #[] 22)]∧(True)) (fun(x_:Unit)=>match x_ with|()=>0) () ?_ ?_
 ·exact⟨⟨rfl,rfl,rfl⟩,rfl,trivial⟩
 rintro⟨⟩ f0 L0 ⟨⟨hs0,hs5,hs9⟩,hL,-⟩
 subst L0
 refine rebase (d:=0) hs0 ?_
 refine rebase (d:=5) hs5 ?_
 refine rebase (d:=9) hs9 ?_
 clear hs0 hs5 hs9
 refine c_seq ?_
 refine c_seq ?_
 refine c_region ?_
 refine l_val (v:= .int .i64 (0)) rfl rfl rfl (e_move) ?_
 refine l_val (v:= .slice none 0 0) rfl rfl rfl (e_move) ?_
 refine l_val (v:= .int .i64 (0)) rfl rfl rfl (e_len (n:=0) rfl tf158) ?_
 refine l_val (v:= .bool false) rfl rfl rfl (e_lss (a:=(0:Int)) (b:=(0:Int)) rfl rfl) ?_
 refine l_nil ?_
 refine f_then ?_
 refine c_no rfl ?_
 refine c_exit ?_
 refine f_then_exit ?_
 refine f_then_exit ?_
 refine f_exit ?_
 refine f_then ?_
 refine c_seq ?_
 refine c_seq ?_
 refine c_region ?_
 refine l_val (v:= .int .i64 (0)) rfl rfl rfl (e_assign) ?_
 refine l_nil ?_
 refine f_then ?_
 refine c_block ?_
 refine c_loop (fun(x_:Unit) (f:Fm) (L:List Res)=>match x_ with|()=>(f 0= .slice none 0 0∧f 5= .slice (some ⟨b1,0,none⟩) 0 0∧f 11= .int .i64 (0))∧L=[pt b1 (.cells #[] 22)]∧(True)) (fun(x_:Unit)=>match x_ with|()=>0) () ?_ ?_
 ·exact⟨⟨rfl,rfl,rfl⟩,rfl,trivial⟩
 rintro⟨⟩ f0 L0 ⟨⟨hs0,hs5,hs11⟩,hL,-⟩
 subst L0
 refine rebase (d:=0) hs0 ?_
 refine rebase (d:=5) hs5 ?_
 refine rebase (d:=11) hs11 ?_
 clear hs0 hs5 hs11
 refine c_seq ?_
 refine c_seq ?_
 refine c_region ?_
 refine l_val (v:= .int .i64 (0)) rfl rfl rfl (e_move) ?_
 refine l_val (v:= .slice none 0 0) rfl rfl rfl (e_move) ?_
 refine l_val (v:= .int .i64 (0)) rfl rfl rfl (e_len (n:=0) rfl tf158) ?_
 refine l_val (v:= .bool false) rfl rfl rfl (e_lss (a:=(0:Int)) (b:=(0:Int)) rfl rfl) ?_
 refine l_nil ?_
 refine f_then ?_
 refine c_no rfl ?_
 refine c_exit ?_
 refine f_then_exit ?_
 refine f_then_exit ?_
 refine f_exit ?_
 refine f_then ?_
 refine c_seq ?_
 refine c_seq ?_
 refine c_region ?_
 refine l_val (v:= .int .i64 (0)) rfl rfl rfl (e_assign) ?_
 refine l_nil ?_
 refine f_then ?_
 refine c_block ?_
 refine c_loop (fun(x_:Unit) (f:Fm) (L:List Res)=>match x_ with|()=>(f 0= .slice none 0 0∧f 5= .slice (some ⟨b1,0,none⟩) 0 0∧f 14= .int .i64 (0))∧L=[pt b1 (.cells #[] 22)]∧(True)) (fun(x_:Unit)=>match x_ with|()=>0) () ?_ ?_
 ·exact⟨⟨rfl,rfl,rfl⟩,rfl,trivial⟩
 rintro⟨⟩ f0 L0 ⟨⟨hs0,hs5,hs14⟩,hL,-⟩
 subst L0
 refine rebase (d:=0) hs0 ?_
 refine rebase (d:=5) hs5 ?_
 refine rebase (d:=14) hs14 ?_
 clear hs0 hs5 hs14
 refine c_seq ?_
 refine c_seq ?_
 refine c_region ?_
 refine l_val (v:= .int .i64 (0)) rfl rfl rfl (e_move) ?_
 refine l_val (v:= .slice none 0 0) rfl rfl rfl (e_move) ?_
 refine l_val (v:= .int .i64 (0)) rfl rfl rfl (e_len (n:=0) rfl tf158) ?_
 refine l_val (v:= .bool false) rfl rfl rfl (e_lss (a:=(0:Int)) (b:=(0:Int)) rfl rfl) ?_
 refine l_nil ?_
 refine f_then ?_
 refine c_no rfl ?_
 refine c_exit ?_
 refine f_then_exit ?_
 refine f_then_exit ?_
 refine f_exit ?_
 refine f_then ?_
 refine c_seq ?_
 refine c_region ?_
 refine l_val (v:= .bool true) rfl rfl rfl (e_assign) ?_
 refine l_nil ?_
 refine f_then ?_
 refine c_ret ?_
 refine ret1 Tryz.results78 (v:= .bool true) rfl ?_
 intro w hw
 exact⟨rfl,st_mask [false] rfl hw⟩
set_option maxHeartbeats 4000000 in
theorem flatRopes_nil(β:Base)(w:World)(hw:St β [] w):Calls Tryz.prog 80 #[.slice none 0 0] w fun r w'=>r= .returned (.bool true)∧St β [] w':=by
 refine enter (n:=193) Tryz.func80 rfl Tryz.ntmps80 rfl ?_ hw
 refine c_seq ?_
 refine c_region ?_
 refine l_val (v:= .bool false) rfl rfl rfl (e_assign) ?_
 refine l_nil ?_
 refine f_then ?_
 refine c_seq ?_
 refine c_seq ?_
 refine c_region ?_
 refine l_val (v:= .int .i64 (0)) rfl rfl rfl (e_assign) ?_
 refine l_nil ?_
 refine f_then ?_
 refine c_block ?_
 refine c_loop (fun(x_:Unit) (f:Fm) (L:List Res)=>match x_ with|()=>(f 0= .slice none 0 0∧f 3= .int .i64 (0))∧L=[]∧(True)) (fun(x_:Unit)=>match x_ with|()=>0) () ?_ ?_
 ·exact⟨⟨rfl,rfl⟩,rfl,trivial⟩
 rintro⟨⟩ f0 L0 ⟨⟨hs0,hs3⟩,hL,-⟩
 subst L0
 refine rebase (d:=0) hs0 ?_
 refine rebase (d:=3) hs3 ?_
 clear hs0 hs3
 refine c_seq ?_
 refine c_seq ?_
 refine c_region ?_
 refine l_val (v:= .int .i64 (0)) rfl rfl rfl (e_move) ?_
 refine l_val (v:= .slice none 0 0) rfl rfl rfl (e_move) ?_
 refine l_val (v:= .int .i64 (0)) rfl rfl rfl (e_len (n:=0) rfl tf161) ?_
 refine l_val (v:= .bool false) rfl rfl rfl (e_lss (a:=(0:Int)) (b:=(0:Int)) rfl rfl) ?_
 refine l_nil ?_
 refine f_then ?_
 refine c_no rfl ?_
 refine c_exit ?_
 refine f_then_exit ?_
 refine f_then_exit ?_
 refine f_exit ?_
 refine f_then ?_
 refine c_seq ?_
 refine c_region ?_
 refine l_val (v:= .slice none 0 0) rfl rfl rfl (e_move) ?_
 refine l_val (v:= .int .i64 (0)) rfl rfl rfl (e_len (n:=0) rfl tf161) ?_
 refine l_mv rfl rfl rfl (m_make00 tf162 rfl rfl) ?_
 rintro _ _ ⟨b1,rfl,rfl⟩
 refine l_val (v:= .slice (some ⟨b1,0,none⟩) 0 0) rfl rfl rfl (e_assign) ?_
 refine l_nil ?_
 refine f_then ?_
 refine c_seq ?_
 refine c_seq ?_
 refine c_region ?_
 refine l_val (v:= .int .i64 (0)) rfl rfl rfl (e_assign) ?_
 refine l_nil ?_
 refine f_then ?_
 refine c_block ?_
 refine c_loop (fun(x_:Unit) (f:Fm) (L:List Res)=>match x_ with|()=>(f 0= .slice none 0 0∧f 5= .slice (some ⟨b1,0,none⟩) 0 0∧f 6= .int .i64 (0))∧L=[pt b1 (.cells #[] 199)]∧(True)) (fun(x_:Unit)=>match x_ with|()=>0) () ?_ ?_
 ·exact⟨⟨rfl,rfl,rfl⟩,rfl,trivial⟩
 rintro⟨⟩ f0 L0 ⟨⟨hs0,hs5,hs6⟩,hL,-⟩
 subst L0
 refine rebase (d:=0) hs0 ?_
 refine rebase (d:=5) hs5 ?_
 refine rebase (d:=6) hs6 ?_
 clear hs0 hs5 hs6
 refine c_seq ?_
 refine c_seq ?_
 refine c_region ?_
 refine l_val (v:= .int .i64 (0)) rfl rfl rfl (e_move) ?_
 refine l_val (v:= .slice none 0 0) rfl rfl rfl (e_move) ?_
 refine l_val (v:= .int .i64 (0)) rfl rfl rfl (e_len (n:=0) rfl tf161) ?_
 refine l_val (v:= .bool false) rfl rfl rfl (e_lss (a:=(0:Int)) (b:=(0:Int)) rfl rfl) ?_
 refine l_nil ?_
 refine f_then ?_
 refine c_no rfl ?_
 refine c_exit ?_
 refine f_then_exit ?_
 refine f_then_exit ?_
 refine f_exit ?_
 refine f_then ?_
 refine c_seq ?_
 refine c_seq ?_
 refine c_region ?_
 refine l_val (v:= .int .i64 (0)) rfl rfl rfl (e_assign) ?_
 refine l_nil ?_
 refine f_then ?_
 refine c_block ?_
 refine c_loop (fun(x_:Unit) (f:Fm) (L:List Res)=>match x_ with|()=>(f 0= .slice none 0 0∧f 5= .slice (some ⟨b1,0,none⟩) 0 0∧f 9= .int .i64 (0))∧L=[pt b1 (.cells #[] 199)]∧(True)) (fun(x_:Unit)=>match x_ with|()=>0) () ?_ ?_
 ·exact⟨⟨rfl,rfl,rfl⟩,rfl,trivial⟩
 rintro⟨⟩ f0 L0 ⟨⟨hs0,hs5,hs9⟩,hL,-⟩
 subst L0
 refine rebase (d:=0) hs0 ?_
 refine rebase (d:=5) hs5 ?_
 refine rebase (d:=9) hs9 ?_
 clear hs0 hs5 hs9
 refine c_seq ?_
 refine c_seq ?_
 refine c_region ?_
 refine l_val (v:= .int .i64 (0)) rfl rfl rfl (e_move) ?_
 refine l_val (v:= .slice none 0 0) rfl rfl rfl (e_move) ?_
 refine l_val (v:= .int .i64 (0)) rfl rfl rfl (e_len (n:=0) rfl tf161) ?_
 refine l_val (v:= .bool false) rfl rfl rfl (e_lss (a:=(0:Int)) (b:=(0:Int)) rfl rfl) ?_
 refine l_nil ?_
 refine f_then ?_
 refine c_no rfl ?_
 refine c_exit ?_
 refine f_then_exit ?_
 refine f_then_exit ?_
 refine f_exit ?_
 refine f_then ?_
 refine c_seq ?_
 refine c_seq ?_
 refine c_region ?_
 refine l_val (v:= .int .i64 (0)) rfl rfl rfl (e_assign) ?_
 refine l_nil ?_
 refine f_then ?_
 refine c_block ?_
 refine c_loop (fun(x_:Unit) (f:Fm) (L:List Res)=>match x_ with|()=>(f 0= .slice none 0 0∧f 5= .slice (some ⟨b1,0,none⟩) 0 0∧f 11= .int .i64 (0))∧L=[pt b1 (.cells #[] 199)]∧(True)) (fun(x_:Unit)=>match x_ with|()=>0) () ?_ ?_
 ·exact⟨⟨rfl,rfl,rfl⟩,rfl,trivial⟩
 rintro⟨⟩ f0 L0 ⟨⟨hs0,hs5,hs11⟩,hL,-⟩
 subst L0
 refine rebase (d:=0) hs0 ?_
 refine rebase (d:=5) hs5 ?_
 refine rebase (d:=11) hs11 ?_
 clear hs0 hs5 hs11
 refine c_seq ?_
 refine c_seq ?_
 refine c_region ?_
 refine l_val (v:= .int .i64 (0)) rfl rfl rfl (e_move) ?_
 refine l_val (v:= .slice none 0 0) rfl rfl rfl (e_move) ?_
 refine l_val (v:= .int .i64 (0)) rfl rfl rfl (e_len (n:=0) rfl tf161) ?_
 refine l_val (v:= .bool false) rfl rfl rfl (e_lss (a:=(0:Int)) (b:=(0:Int)) rfl rfl) ?_
 refine l_nil ?_
 refine f_then ?_
 refine c_no rfl ?_
 refine c_exit ?_
 refine f_then_exit ?_
 refine f_then_exit ?_
 refine f_exit ?_
 refine f_then ?_
 refine c_seq ?_
 refine c_seq ?_
 refine c_region ?_
 refine l_val (v:= .int .i64 (0)) rfl rfl rfl (e_assign) ?_
 refine l_nil ?_
 refine f_then ?_
 refine c_block ?_
 refine c_loop (fun(x_:Unit) (f:Fm) (L:List Res)=>match x_ with|()=>(f 0= .slice none 0 0∧f 5= .slice (some ⟨b1,0,none⟩) 0 0∧f 14= .int .i64 (0))∧L=[pt b1 (.cells #[] 199)]∧(True)) (fun(x_:Unit)=>match x_ with|()=>0) () ?_ ?_
 ·exact⟨⟨rfl,rfl,rfl⟩,rfl,trivial⟩
 rintro⟨⟩ f0 L0 ⟨⟨hs0,hs5,hs14⟩,hL,-⟩
 subst L0
 refine rebase (d:=0) hs0 ?_
 refine rebase (d:=5) hs5 ?_
 refine rebase (d:=14) hs14 ?_
 clear hs0 hs5 hs14
 refine c_seq ?_
 refine c_seq ?_
 refine c_region ?_
 refine l_val (v:= .int .i64 (0)) rfl rfl rfl (e_move) ?_
 refine l_val (v:= .slice none 0 0) rfl rfl rfl (e_move) ?_
 refine l_val (v:= .int .i64 (0)) rfl rfl rfl (e_len (n:=0) rfl tf161) ?_
 refine l_val (v:= .bool false) rfl rfl rfl (e_lss (a:=(0:Int)) (b:=(0:Int)) rfl rfl) ?_
 refine l_nil ?_
 refine f_then ?_
 refine c_no rfl ?_
 refine c_exit ?_
 refine f_then_exit ?_
 refine f_then_exit ?_
 refine f_exit ?_
 refine f_then ?_
 refine c_seq ?_
 refine c_region ?_
 refine l_val (v:= .bool true) rfl rfl rfl (e_assign) ?_
 refine l_nil ?_
 refine f_then ?_
 refine c_ret ?_
 refine ret1 Tryz.results80 (v:= .bool true) rfl ?_
 intro w hw
 exact⟨rfl,st_mask [false] rfl hw⟩
set_option maxHeartbeats 4000000 in
theorem flatExprs_nil(β:Base)(w:World)(hw:St β [] w):Calls Tryz.prog 81 #[.slice none 0 0] w fun r w'=>r= .returned (.bool true)∧St β [] w':=by
 refine enter (n:=193) Tryz.func81 rfl Tryz.ntmps81 rfl ?_ hw
 refine c_seq ?_
 refine c_region ?_
 refine l_val (v:= .bool false) rfl rfl rfl (e_assign) ?_
 refine l_nil ?_
 refine f_then ?_
 refine c_seq ?_
 refine c_seq ?_
 refine c_region ?_
 refine l_val (v:= .int .i64 (0)) rfl rfl rfl (e_assign) ?_
 refine l_nil ?_
 refine f_then ?_
 refine c_block ?_
 refine c_loop (fun(x_:Unit) (f:Fm) (L:List Res)=>match x_ with|()=>(f 0= .slice none 0 0∧f 3= .int .i64 (0))∧L=[]∧(True)) (fun(x_:Unit)=>match x_ with|()=>0) () ?_ ?_
 ·exact⟨⟨rfl,rfl⟩,rfl,trivial⟩
 rintro⟨⟩ f0 L0 ⟨⟨hs0,hs3⟩,hL,-⟩
 subst L0
 refine rebase (d:=0) hs0 ?_
 refine rebase (d:=3) hs3 ?_
 clear hs0 hs3
 refine c_seq ?_
 refine c_seq ?_
 refine c_region ?_
 refine l_val (v:= .int .i64 (0)) rfl rfl rfl (e_move) ?_
 refine l_val (v:= .slice none 0 0) rfl rfl rfl (e_move) ?_
 refine l_val (v:= .int .i64 (0)) rfl rfl rfl (e_len (n:=0) rfl tf164) ?_
 refine l_val (v:= .bool false) rfl rfl rfl (e_lss (a:=(0:Int)) (b:=(0:Int)) rfl rfl) ?_
 refine l_nil ?_
 refine f_then ?_
 refine c_no rfl ?_
 refine c_exit ?_
 refine f_then_exit ?_
 refine f_then_exit ?_
 refine f_exit ?_
 refine f_then ?_
 refine c_seq ?_
 refine c_region ?_
 refine l_val (v:= .slice none 0 0) rfl rfl rfl (e_move) ?_
 refine l_val (v:= .int .i64 (0)) rfl rfl rfl (e_len (n:=0) rfl tf164) ?_
 refine l_mv rfl rfl rfl (m_make00 tf165 rfl rfl) ?_
 rintro _ _ ⟨b1,rfl,rfl⟩
 refine l_val (v:= .slice (some ⟨b1,0,none⟩) 0 0) rfl rfl rfl (e_assign) ?_
 refine l_nil ?_
 refine f_then ?_
 refine c_seq ?_
 refine c_seq ?_
 refine c_region ?_
 refine l_val (v:= .int .i64 (0)) rfl rfl rfl (e_assign) ?_
 refine l_nil ?_
 refine f_then ?_
 refine c_block ?_
 refine c_loop (fun(x_:Unit) (f:Fm) (L:List Res)=>match x_ with|()=>(f 0= .slice none 0 0∧f 5= .slice (some ⟨b1,0,none⟩) 0 0∧f 6= .int .i64 (0))∧L=[pt b1 (.cells #[] 203)]∧(True)) (fun(x_:Unit)=>match x_ with|()=>0) () ?_ ?_
 ·exact⟨⟨rfl,rfl,rfl⟩,rfl,trivial⟩
 rintro⟨⟩ f0 L0 ⟨⟨hs0,hs5,hs6⟩,hL,-⟩
 subst L0
 refine rebase (d:=0) hs0 ?_
 refine rebase (d:=5) hs5 ?_
 refine rebase (d:=6) hs6 ?_
 clear hs0 hs5 hs6
 refine c_seq ?_
 refine c_seq ?_
 refine c_region ?_
 refine l_val (v:= .int .i64 (0)) rfl rfl rfl (e_move) ?_
 refine l_val (v:= .slice none 0 0) rfl rfl rfl (e_move) ?_
 refine l_val (v:= .int .i64 (0)) rfl rfl rfl (e_len (n:=0) rfl tf164) ?_
 refine l_val (v:= .bool false) rfl rfl rfl (e_lss (a:=(0:Int)) (b:=(0:Int)) rfl rfl) ?_
 refine l_nil ?_
 refine f_then ?_
 refine c_no rfl ?_
 refine c_exit ?_
 refine f_then_exit ?_
 refine f_then_exit ?_
 refine f_exit ?_
 refine f_then ?_
 refine c_seq ?_
 refine c_seq ?_
 refine c_region ?_
 refine l_val (v:= .int .i64 (0)) rfl rfl rfl (e_assign) ?_
 refine l_nil ?_
 refine f_then ?_
 refine c_block ?_
 refine c_loop (fun(x_:Unit) (f:Fm) (L:List Res)=>match x_ with|()=>(f 0= .slice none 0 0∧f 5= .slice (some ⟨b1,0,none⟩) 0 0∧f 9= .int .i64 (0))∧L=[pt b1 (.cells #[] 203)]∧(True)) (fun(x_:Unit)=>match x_ with|()=>0) () ?_ ?_
 ·exact⟨⟨rfl,rfl,rfl⟩,rfl,trivial⟩
 rintro⟨⟩ f0 L0 ⟨⟨hs0,hs5,hs9⟩,hL,-⟩
 subst L0
 refine rebase (d:=0) hs0 ?_
 refine rebase (d:=5) hs5 ?_
 refine rebase (d:=9) hs9 ?_
 clear hs0 hs5 hs9
 refine c_seq ?_
 refine c_seq ?_
 refine c_region ?_
 refine l_val (v:= .int .i64 (0)) rfl rfl rfl (e_move) ?_
 refine l_val (v:= .slice none 0 0) rfl rfl rfl (e_move) ?_
 refine l_val (v:= .int .i64 (0)) rfl rfl rfl (e_len (n:=0) rfl tf164) ?_
 refine l_val (v:= .bool false) rfl rfl rfl (e_lss (a:=(0:Int)) (b:=(0:Int)) rfl rfl) ?_
 refine l_nil ?_
 refine f_then ?_
 refine c_no rfl ?_
 refine c_exit ?_
 refine f_then_exit ?_
 refine f_then_exit ?_
 refine f_exit ?_
 refine f_then ?_
 refine c_seq ?_
 refine c_seq ?_
 refine c_region ?_
 refine l_val (v:= .int .i64 (0)) rfl rfl rfl (e_assign) ?_
 refine l_nil ?_
 refine f_then ?_
 refine c_block ?_
 refine c_loop (fun(x_:Unit) (f:Fm) (L:List Res)=>match x_ with|()=>(f 0= .slice none 0 0∧f 5= .slice (some ⟨b1,0,none⟩) 0 0∧f 11= .int .i64 (0))∧L=[pt b1 (.cells #[] 203)]∧(True)) (fun(x_:Unit)=>match x_ with|()=>0) () ?_ ?_
 ·exact⟨⟨rfl,rfl,rfl⟩,rfl,trivial⟩
 rintro⟨⟩ f0 L0 ⟨⟨hs0,hs5,hs11⟩,hL,-⟩
 subst L0
 refine rebase (d:=0) hs0 ?_
 refine rebase (d:=5) hs5 ?_
 refine rebase (d:=11) hs11 ?_
 clear hs0 hs5 hs11
 refine c_seq ?_
 refine c_seq ?_
 refine c_region ?_
 refine l_val (v:= .int .i64 (0)) rfl rfl rfl (e_move) ?_
 refine l_val (v:= .slice none 0 0) rfl rfl rfl (e_move) ?_
 refine l_val (v:= .int .i64 (0)) rfl rfl rfl (e_len (n:=0) rfl tf164) ?_
 refine l_val (v:= .bool false) rfl rfl rfl (e_lss (a:=(0:Int)) (b:=(0:Int)) rfl rfl) ?_
 refine l_nil ?_
 refine f_then ?_
 refine c_no rfl ?_
 refine c_exit ?_
 refine f_then_exit ?_
 refine f_then_exit ?_
 refine f_exit ?_
 refine f_then ?_
 refine c_seq ?_
 refine c_seq ?_
 refine c_region ?_
 refine l_val (v:= .int .i64 (0)) rfl rfl rfl (e_assign) ?_
 refine l_nil ?_
 refine f_then ?_
 refine c_block ?_
 refine c_loop (fun(x_:Unit) (f:Fm) (L:List Res)=>match x_ with|()=>(f 0= .slice none 0 0∧f 5= .slice (some ⟨b1,0,none⟩) 0 0∧f 14= .int .i64 (0))∧L=[pt b1 (.cells #[] 203)]∧(True)) (fun(x_:Unit)=>match x_ with|()=>0) () ?_ ?_
 ·exact⟨⟨rfl,rfl,rfl⟩,rfl,trivial⟩
 rintro⟨⟩ f0 L0 ⟨⟨hs0,hs5,hs14⟩,hL,-⟩
 subst L0
 refine rebase (d:=0) hs0 ?_
 refine rebase (d:=5) hs5 ?_
 refine rebase (d:=14) hs14 ?_
 clear hs0 hs5 hs14
 refine c_seq ?_
 refine c_seq ?_
 refine c_region ?_
 refine l_val (v:= .int .i64 (0)) rfl rfl rfl (e_move) ?_
 refine l_val (v:= .slice none 0 0) rfl rfl rfl (e_move) ?_
 refine l_val (v:= .int .i64 (0)) rfl rfl rfl (e_len (n:=0) rfl tf164) ?_
 refine l_val (v:= .bool false) rfl rfl rfl (e_lss (a:=(0:Int)) (b:=(0:Int)) rfl rfl) ?_
 refine l_nil ?_
 refine f_then ?_
 refine c_no rfl ?_
 refine c_exit ?_
 refine f_then_exit ?_
 refine f_then_exit ?_
 refine f_exit ?_
 refine f_then ?_
 refine c_seq ?_
 refine c_region ?_
 refine l_val (v:= .bool true) rfl rfl rfl (e_assign) ?_
 refine l_nil ?_
 refine f_then ?_
 refine c_ret ?_
 refine ret1 Tryz.results81 (v:= .bool true) rfl ?_
 intro w hw
 exact⟨rfl,st_mask [false] rfl hw⟩
set_option maxHeartbeats 4000000 in
theorem flatStmts_nil(β:Base)(w:World)(hw:St β [] w):Calls Tryz.prog 82 #[.slice none 0 0] w fun r w'=>r= .returned (.bool true)∧St β [] w':=by
 refine enter (n:=193) Tryz.func82 rfl Tryz.ntmps82 rfl ?_ hw
 refine c_seq ?_
 refine c_region ?_
 refine l_val (v:= .bool false) rfl rfl rfl (e_assign) ?_
 refine l_nil ?_
 refine f_then ?_
 refine c_seq ?_
 refine c_seq ?_
 refine c_region ?_
 refine l_val (v:= .int .i64 (0)) rfl rfl rfl (e_assign) ?_
 refine l_nil ?_
 refine f_then ?_
 refine c_block ?_
 refine c_loop (fun(x_:Unit) (f:Fm) (L:List Res)=>match x_ with|()=>(f 0= .slice none 0 0∧f 3= .int .i64 (0))∧L=[]∧(True)) (fun(x_:Unit)=>match x_ with|()=>0) () ?_ ?_
 ·exact⟨⟨rfl,rfl⟩,rfl,trivial⟩
 rintro⟨⟩ f0 L0 ⟨⟨hs0,hs3⟩,hL,-⟩
 subst L0
 refine rebase (d:=0) hs0 ?_
 refine rebase (d:=3) hs3 ?_
 clear hs0 hs3
 refine c_seq ?_
 refine c_seq ?_
 refine c_region ?_
 refine l_val (v:= .int .i64 (0)) rfl rfl rfl (e_move) ?_
 refine l_val (v:= .slice none 0 0) rfl rfl rfl (e_move) ?_
 refine l_val (v:= .int .i64 (0)) rfl rfl rfl (e_len (n:=0) rfl tf167) ?_
 refine l_val (v:= .bool false) rfl rfl rfl (e_lss (a:=(0:Int)) (b:=(0:Int)) rfl rfl) ?_
 refine l_nil ?_
 refine f_then ?_
 refine c_no rfl ?_
 refine c_exit ?_
 refine f_then_exit ?_
 refine f_then_exit ?_
 refine f_exit ?_
 refine f_then ?_
 refine c_seq ?_
 refine c_region ?_
 refine l_val (v:= .slice none 0 0) rfl rfl rfl (e_move) ?_
 refine l_val (v:= .int .i64 (0)) rfl rfl rfl (e_len (n:=0) rfl tf167) ?_
 refine l_mv rfl rfl rfl (m_make00 tf168 rfl rfl) ?_
 rintro _ _ ⟨b1,rfl,rfl⟩
 refine l_val (v:= .slice (some ⟨b1,0,none⟩) 0 0) rfl rfl rfl (e_assign) ?_
 refine l_nil ?_
 refine f_then ?_
 refine c_seq ?_
 refine c_seq ?_
 refine c_region ?_
 refine l_val (v:= .int .i64 (0)) rfl rfl rfl (e_assign) ?_
 refine l_nil ?_
 refine f_then ?_
 refine c_block ?_
 refine c_loop (fun(x_:Unit) (f:Fm) (L:List Res)=>match x_ with|()=>(f 0= .slice none 0 0∧f 5= .slice (some ⟨b1,0,none⟩) 0 0∧f 6= .int .i64 (0))∧L=[pt b1 (.cells #[] 208)]∧(True)) (fun(x_:Unit)=>match x_ with|()=>0) () ?_ ?_
 ·exact⟨⟨rfl,rfl,rfl⟩,rfl,trivial⟩
 rintro⟨⟩ f0 L0 ⟨⟨hs0,hs5,hs6⟩,hL,-⟩
 subst L0
 refine rebase (d:=0) hs0 ?_
 refine rebase (d:=5) hs5 ?_
 refine rebase (d:=6) hs6 ?_
 clear hs0 hs5 hs6
 refine c_seq ?_
 refine c_seq ?_
 refine c_region ?_
 refine l_val (v:= .int .i64 (0)) rfl rfl rfl (e_move) ?_
 refine l_val (v:= .slice none 0 0) rfl rfl rfl (e_move) ?_
 refine l_val (v:= .int .i64 (0)) rfl rfl rfl (e_len (n:=0) rfl tf167) ?_
 refine l_val (v:= .bool false) rfl rfl rfl (e_lss (a:=(0:Int)) (b:=(0:Int)) rfl rfl) ?_
 refine l_nil ?_
 refine f_then ?_
 refine c_no rfl ?_
 refine c_exit ?_
 refine f_then_exit ?_
 refine f_then_exit ?_
 refine f_exit ?_
 refine f_then ?_
 refine c_seq ?_
 refine c_seq ?_
 refine c_region ?_
 refine l_val (v:= .int .i64 (0)) rfl rfl rfl (e_assign) ?_
 refine l_nil ?_
 refine f_then ?_
 refine c_block ?_
 refine c_loop (fun(x_:Unit) (f:Fm) (L:List Res)=>match x_ with|()=>(f 0= .slice none 0 0∧f 5= .slice (some ⟨b1,0,none⟩) 0 0∧f 9= .int .i64 (0))∧L=[pt b1 (.cells #[] 208)]∧(True)) (fun(x_:Unit)=>match x_ with|()=>0) () ?_ ?_
 ·exact⟨⟨rfl,rfl,rfl⟩,rfl,trivial⟩
 rintro⟨⟩ f0 L0 ⟨⟨hs0,hs5,hs9⟩,hL,-⟩
 subst L0
 refine rebase (d:=0) hs0 ?_
 refine rebase (d:=5) hs5 ?_
 refine rebase (d:=9) hs9 ?_
 clear hs0 hs5 hs9
 refine c_seq ?_
 refine c_seq ?_
 refine c_region ?_
 refine l_val (v:= .int .i64 (0)) rfl rfl rfl (e_move) ?_
 refine l_val (v:= .slice none 0 0) rfl rfl rfl (e_move) ?_
 refine l_val (v:= .int .i64 (0)) rfl rfl rfl (e_len (n:=0) rfl tf167) ?_
 refine l_val (v:= .bool false) rfl rfl rfl (e_lss (a:=(0:Int)) (b:=(0:Int)) rfl rfl) ?_
 refine l_nil ?_
 refine f_then ?_
 refine c_no rfl ?_
 refine c_exit ?_
 refine f_then_exit ?_
 refine f_then_exit ?_
 refine f_exit ?_
 refine f_then ?_
 refine c_seq ?_
 refine c_seq ?_
 refine c_region ?_
 refine l_val (v:= .int .i64 (0)) rfl rfl rfl (e_assign) ?_
 refine l_nil ?_
 refine f_then ?_
 refine c_block ?_
 refine c_loop (fun(x_:Unit) (f:Fm) (L:List Res)=>match x_ with|()=>(f 0= .slice none 0 0∧f 5= .slice (some ⟨b1,0,none⟩) 0 0∧f 11= .int .i64 (0))∧L=[pt b1 (.cells #[] 208)]∧(True)) (fun(x_:Unit)=>match x_ with|()=>0) () ?_ ?_
 ·exact⟨⟨rfl,rfl,rfl⟩,rfl,trivial⟩
 rintro⟨⟩ f0 L0 ⟨⟨hs0,hs5,hs11⟩,hL,-⟩
 subst L0
 refine rebase (d:=0) hs0 ?_
 refine rebase (d:=5) hs5 ?_
 refine rebase (d:=11) hs11 ?_
 clear hs0 hs5 hs11
 refine c_seq ?_
 refine c_seq ?_
 refine c_region ?_
 refine l_val (v:= .int .i64 (0)) rfl rfl rfl (e_move) ?_
 refine l_val (v:= .slice none 0 0) rfl rfl rfl (e_move) ?_
 refine l_val (v:= .int .i64 (0)) rfl rfl rfl (e_len (n:=0) rfl tf167) ?_
 refine l_val (v:= .bool false) rfl rfl rfl (e_lss (a:=(0:Int)) (b:=(0:Int)) rfl rfl) ?_
 refine l_nil ?_
 refine f_then ?_
 refine c_no rfl ?_
 refine c_exit ?_
 refine f_then_exit ?_
 refine f_then_exit ?_
 refine f_exit ?_
 refine f_then ?_
 refine c_seq ?_
 refine c_seq ?_
 refine c_region ?_
 refine l_val (v:= .int .i64 (0)) rfl rfl rfl (e_assign) ?_
 refine l_nil ?_
 refine f_then ?_
 refine c_block ?_
 refine c_loop (fun(x_:Unit) (f:Fm) (L:List Res)=>match x_ with|()=>(f 0= .slice none 0 0∧f 5= .slice (some ⟨b1,0,none⟩) 0 0∧f 14= .int .i64 (0))∧L=[pt b1 (.cells #[] 208)]∧(True)) (fun(x_:Unit)=>match x_ with|()=>0) () ?_ ?_
 ·exact⟨⟨rfl,rfl,rfl⟩,rfl,trivial⟩
 rintro⟨⟩ f0 L0 ⟨⟨hs0,hs5,hs14⟩,hL,-⟩
 subst L0
 refine rebase (d:=0) hs0 ?_
 refine rebase (d:=5) hs5 ?_
 refine rebase (d:=14) hs14 ?_
 clear hs0 hs5 hs14
 refine c_seq ?_
 refine c_seq ?_
 refine c_region ?_
 refine l_val (v:= .int .i64 (0)) rfl rfl rfl (e_move) ?_
 refine l_val (v:= .slice none 0 0) rfl rfl rfl (e_move) ?_
 refine l_val (v:= .int .i64 (0)) rfl rfl rfl (e_len (n:=0) rfl tf167) ?_
 refine l_val (v:= .bool false) rfl rfl rfl (e_lss (a:=(0:Int)) (b:=(0:Int)) rfl rfl) ?_
 refine l_nil ?_
 refine f_then ?_
 refine c_no rfl ?_
 refine c_exit ?_
 refine f_then_exit ?_
 refine f_then_exit ?_
 refine f_exit ?_
 refine f_then ?_
 refine c_seq ?_
 refine c_region ?_
 refine l_val (v:= .bool true) rfl rfl rfl (e_assign) ?_
 refine l_nil ?_
 refine f_then ?_
 refine c_ret ?_
 refine ret1 Tryz.results82 (v:= .bool true) rfl ?_
 intro w hw
 exact⟨rfl,st_mask [false] rfl hw⟩
set_option maxHeartbeats 4000000 in
theorem flatScenes_nil(β:Base)(w:World)(hw:St β [] w):Calls Tryz.prog 83 #[.slice none 0 0] w fun r w'=>r= .returned (.bool true)∧St β [] w':=by
 refine enter (n:=193) Tryz.func83 rfl Tryz.ntmps83 rfl ?_ hw
 refine c_seq ?_
 refine c_region ?_
 refine l_val (v:= .bool false) rfl rfl rfl (e_assign) ?_
 refine l_nil ?_
 refine f_then ?_
 refine c_seq ?_
 refine c_seq ?_
 refine c_region ?_
 refine l_val (v:= .int .i64 (0)) rfl rfl rfl (e_assign) ?_
 refine l_nil ?_
 refine f_then ?_
 refine c_block ?_
 refine c_loop (fun(x_:Unit) (f:Fm) (L:List Res)=>match x_ with|()=>(f 0= .slice none 0 0∧f 3= .int .i64 (0))∧L=[]∧(True)) (fun(x_:Unit)=>match x_ with|()=>0) () ?_ ?_
 ·exact⟨⟨rfl,rfl⟩,rfl,trivial⟩
 rintro⟨⟩ f0 L0 ⟨⟨hs0,hs3⟩,hL,-⟩
 subst L0
 refine rebase (d:=0) hs0 ?_
 refine rebase (d:=3) hs3 ?_
 clear hs0 hs3
 refine c_seq ?_
 refine c_seq ?_
 refine c_region ?_
 refine l_val (v:= .int .i64 (0)) rfl rfl rfl (e_move) ?_
 refine l_val (v:= .slice none 0 0) rfl rfl rfl (e_move) ?_
 refine l_val (v:= .int .i64 (0)) rfl rfl rfl (e_len (n:=0) rfl tf170) ?_
 refine l_val (v:= .bool false) rfl rfl rfl (e_lss (a:=(0:Int)) (b:=(0:Int)) rfl rfl) ?_
 refine l_nil ?_
 refine f_then ?_
 refine c_no rfl ?_
 refine c_exit ?_
 refine f_then_exit ?_
 refine f_then_exit ?_
 refine f_exit ?_
 refine f_then ?_
 refine c_seq ?_
 refine c_region ?_
 refine l_val (v:= .slice none 0 0) rfl rfl rfl (e_move) ?_
 refine l_val (v:= .int .i64 (0)) rfl rfl rfl (e_len (n:=0) rfl tf170) ?_
 refine l_mv rfl rfl rfl (m_make00 tf171 rfl rfl) ?_
 rintro _ _ ⟨b1,rfl,rfl⟩
 refine l_val (v:= .slice (some ⟨b1,0,none⟩) 0 0) rfl rfl rfl (e_assign) ?_
 refine l_nil ?_
 refine f_then ?_
 refine c_seq ?_
 refine c_seq ?_
 refine c_region ?_
 refine l_val (v:= .int .i64 (0)) rfl rfl rfl (e_assign) ?_
 refine l_nil ?_
 refine f_then ?_
 refine c_block ?_
 refine c_loop (fun(x_:Unit) (f:Fm) (L:List Res)=>match x_ with|()=>(f 0= .slice none 0 0∧f 5= .slice (some ⟨b1,0,none⟩) 0 0∧f 6= .int .i64 (0))∧L=[pt b1 (.cells #[] 213)]∧(True)) (fun(x_:Unit)=>match x_ with|()=>0) () ?_ ?_
 ·exact⟨⟨rfl,rfl,rfl⟩,rfl,trivial⟩
 rintro⟨⟩ f0 L0 ⟨⟨hs0,hs5,hs6⟩,hL,-⟩
 subst L0
 refine rebase (d:=0) hs0 ?_
 refine rebase (d:=5) hs5 ?_
 refine rebase (d:=6) hs6 ?_
 clear hs0 hs5 hs6
 refine c_seq ?_
 refine c_seq ?_
 refine c_region ?_
 refine l_val (v:= .int .i64 (0)) rfl rfl rfl (e_move) ?_
 refine l_val (v:= .slice none 0 0) rfl rfl rfl (e_move) ?_
 refine l_val (v:= .int .i64 (0)) rfl rfl rfl (e_len (n:=0) rfl tf170) ?_
 refine l_val (v:= .bool false) rfl rfl rfl (e_lss (a:=(0:Int)) (b:=(0:Int)) rfl rfl) ?_
 refine l_nil ?_
 refine f_then ?_
 refine c_no rfl ?_
 refine c_exit ?_
 refine f_then_exit ?_
 refine f_then_exit ?_
 refine f_exit ?_
 refine f_then ?_
 refine c_seq ?_
 refine c_seq ?_
 refine c_region ?_
 refine l_val (v:= .int .i64 (0)) rfl rfl rfl (e_assign) ?_
 refine l_nil ?_
 refine f_then ?_
 refine c_block ?_
 refine c_loop (fun(x_:Unit) (f:Fm) (L:List Res)=>match x_ with|()=>(f 0= .slice none 0 0∧f 5= .slice (some ⟨b1,0,none⟩) 0 0∧f 9= .int .i64 (0))∧L=[pt b1 (.cells #[] 213)]∧(True)) (fun(x_:Unit)=>match x_ with|()=>0) () ?_ ?_
 ·exact⟨⟨rfl,rfl,rfl⟩,rfl,trivial⟩
 rintro⟨⟩ f0 L0 ⟨⟨hs0,hs5,hs9⟩,hL,-⟩
 subst L0
 refine rebase (d:=0) hs0 ?_
 refine rebase (d:=5) hs5 ?_
 refine rebase (d:=9) hs9 ?_
 clear hs0 hs5 hs9
 refine c_seq ?_
 refine c_seq ?_
 refine c_region ?_
 refine l_val (v:= .int .i64 (0)) rfl rfl rfl (e_move) ?_
 refine l_val (v:= .slice none 0 0) rfl rfl rfl (e_move) ?_
 refine l_val (v:= .int .i64 (0)) rfl rfl rfl (e_len (n:=0) rfl tf170) ?_
 refine l_val (v:= .bool false) rfl rfl rfl (e_lss (a:=(0:Int)) (b:=(0:Int)) rfl rfl) ?_
 refine l_nil ?_
 refine f_then ?_
 refine c_no rfl ?_
 refine c_exit ?_
 refine f_then_exit ?_
 refine f_then_exit ?_
 refine f_exit ?_
 refine f_then ?_
 refine c_seq ?_
 refine c_seq ?_
 refine c_region ?_
 refine l_val (v:= .int .i64 (0)) rfl rfl rfl (e_assign) ?_
 refine l_nil ?_
 refine f_then ?_
 refine c_block ?_
 refine c_loop (fun(x_:Unit) (f:Fm) (L:List Res)=>match x_ with|()=>(f 0= .slice none 0 0∧f 5= .slice (some ⟨b1,0,none⟩) 0 0∧f 11= .int .i64 (0))∧L=[pt b1 (.cells #[] 213)]∧(True)) (fun(x_:Unit)=>match x_ with|()=>0) () ?_ ?_
 ·exact⟨⟨rfl,rfl,rfl⟩,rfl,trivial⟩
 rintro⟨⟩ f0 L0 ⟨⟨hs0,hs5,hs11⟩,hL,-⟩
 subst L0
 refine rebase (d:=0) hs0 ?_
 refine rebase (d:=5) hs5 ?_
 refine rebase (d:=11) hs11 ?_
 clear hs0 hs5 hs11
 refine c_seq ?_
 refine c_seq ?_
 refine c_region ?_
 refine l_val (v:= .int .i64 (0)) rfl rfl rfl (e_move) ?_
 refine l_val (v:= .slice none 0 0) rfl rfl rfl (e_move) ?_
 refine l_val (v:= .int .i64 (0)) rfl rfl rfl (e_len (n:=0) rfl tf170) ?_
 refine l_val (v:= .bool false) rfl rfl rfl (e_lss (a:=(0:Int)) (b:=(0:Int)) rfl rfl) ?_
 refine l_nil ?_
 refine f_then ?_
 refine c_no rfl ?_
 refine c_exit ?_
 refine f_then_exit ?_
 refine f_then_exit ?_
 refine f_exit ?_
 refine f_then ?_
 refine c_seq ?_
 refine c_seq ?_
 refine c_region ?_
 refine l_val (v:= .int .i64 (0)) rfl rfl rfl (e_assign) ?_
 refine l_nil ?_
 refine f_then ?_
 refine c_block ?_
 refine c_loop (fun(x_:Unit) (f:Fm) (L:List Res)=>match x_ with|()=>(f 0= .slice none 0 0∧f 5= .slice (some ⟨b1,0,none⟩) 0 0∧f 14= .int .i64 (0))∧L=[pt b1 (.cells #[] 213)]∧(True)) (fun(x_:Unit)=>match x_ with|()=>0) () ?_ ?_
 ·exact⟨⟨rfl,rfl,rfl⟩,rfl,trivial⟩
 rintro⟨⟩ f0 L0 ⟨⟨hs0,hs5,hs14⟩,hL,-⟩
 subst L0
 refine rebase (d:=0) hs0 ?_
 refine rebase (d:=5) hs5 ?_
 refine rebase (d:=14) hs14 ?_
 clear hs0 hs5 hs14
 refine c_seq ?_
 refine c_seq ?_
 refine c_region ?_
 refine l_val (v:= .int .i64 (0)) rfl rfl rfl (e_move) ?_
 refine l_val (v:= .slice none 0 0) rfl rfl rfl (e_move) ?_
 refine l_val (v:= .int .i64 (0)) rfl rfl rfl (e_len (n:=0) rfl tf170) ?_
 refine l_val (v:= .bool false) rfl rfl rfl (e_lss (a:=(0:Int)) (b:=(0:Int)) rfl rfl) ?_
 refine l_nil ?_
 refine f_then ?_
 refine c_no rfl ?_
 refine c_exit ?_
 refine f_then_exit ?_
 refine f_then_exit ?_
 refine f_exit ?_
 refine f_then ?_
 refine c_seq ?_
 refine c_region ?_
 refine l_val (v:= .bool true) rfl rfl rfl (e_assign) ?_
 refine l_nil ?_
 refine f_then ?_
 refine c_ret ?_
 refine ret1 Tryz.results83 (v:= .bool true) rfl ?_
 intro w hw
 exact⟨rfl,st_mask [false] rfl hw⟩
set_option maxHeartbeats 4000000 in
theorem flatStops_nil(β:Base)(w:World)(hw:St β [] w):Calls Tryz.prog 84 #[.slice none 0 0] w fun r w'=>r= .returned (.bool true)∧St β [] w':=by
 refine enter (n:=193) Tryz.func84 rfl Tryz.ntmps84 rfl ?_ hw
 refine c_seq ?_
 refine c_region ?_
 refine l_val (v:= .bool false) rfl rfl rfl (e_assign) ?_
 refine l_nil ?_
 refine f_then ?_
 refine c_seq ?_
 refine c_seq ?_
 refine c_region ?_
 refine l_val (v:= .int .i64 (0)) rfl rfl rfl (e_assign) ?_
 refine l_nil ?_
 refine f_then ?_
 refine c_block ?_
 refine c_loop (fun(x_:Unit) (f:Fm) (L:List Res)=>match x_ with|()=>(f 0= .slice none 0 0∧f 3= .int .i64 (0))∧L=[]∧(True)) (fun(x_:Unit)=>match x_ with|()=>0) () ?_ ?_
 ·exact⟨⟨rfl,rfl⟩,rfl,trivial⟩
 rintro⟨⟩ f0 L0 ⟨⟨hs0,hs3⟩,hL,-⟩
 subst L0
 refine rebase (d:=0) hs0 ?_
 refine rebase (d:=3) hs3 ?_
 clear hs0 hs3
 refine c_seq ?_
 refine c_seq ?_
 refine c_region ?_
 refine l_val (v:= .int .i64 (0)) rfl rfl rfl (e_move) ?_
 refine l_val (v:= .slice none 0 0) rfl rfl rfl (e_move) ?_
 refine l_val (v:= .int .i64 (0)) rfl rfl rfl (e_len (n:=0) rfl tf173) ?_
 refine l_val (v:= .bool false) rfl rfl rfl (e_lss (a:=(0:Int)) (b:=(0:Int)) rfl rfl) ?_
 refine l_nil ?_
 refine f_then ?_
 refine c_no rfl ?_
 refine c_exit ?_
 refine f_then_exit ?_
 refine f_then_exit ?_
 refine f_exit ?_
 refine f_then ?_
 refine c_seq ?_
 refine c_region ?_
 refine l_val (v:= .slice none 0 0) rfl rfl rfl (e_move) ?_
 refine l_val (v:= .int .i64 (0)) rfl rfl rfl (e_len (n:=0) rfl tf173) ?_
 refine l_mv rfl rfl rfl (m_make00 tf174 rfl rfl) ?_
 rintro _ _ ⟨b1,rfl,rfl⟩
 refine l_val (v:= .slice (some ⟨b1,0,none⟩) 0 0) rfl rfl rfl (e_assign) ?_
 refine l_nil ?_
 refine f_then ?_
 refine c_seq ?_
 refine c_seq ?_
 refine c_region ?_
 refine l_val (v:= .int .i64 (0)) rfl rfl rfl (e_assign) ?_
 refine l_nil ?_
 refine f_then ?_
 refine c_block ?_
 refine c_loop (fun(x_:Unit) (f:Fm) (L:List Res)=>match x_ with|()=>(f 0= .slice none 0 0∧f 5= .slice (some ⟨b1,0,none⟩) 0 0∧f 6= .int .i64 (0))∧L=[pt b1 (.cells #[] 218)]∧(True)) (fun(x_:Unit)=>match x_ with|()=>0) () ?_ ?_
 ·exact⟨⟨rfl,rfl,rfl⟩,rfl,trivial⟩
 rintro⟨⟩ f0 L0 ⟨⟨hs0,hs5,hs6⟩,hL,-⟩
 subst L0
 refine rebase (d:=0) hs0 ?_
 refine rebase (d:=5) hs5 ?_
 refine rebase (d:=6) hs6 ?_
 clear hs0 hs5 hs6
 refine c_seq ?_
 refine c_seq ?_
 refine c_region ?_
 refine l_val (v:= .int .i64 (0)) rfl rfl rfl (e_move) ?_
 refine l_val (v:= .slice none 0 0) rfl rfl rfl (e_move) ?_
 refine l_val (v:= .int .i64 (0)) rfl rfl rfl (e_len (n:=0) rfl tf173) ?_
 refine l_val (v:= .bool false) rfl rfl rfl (e_lss (a:=(0:Int)) (b:=(0:Int)) rfl rfl) ?_
 refine l_nil ?_
 refine f_then ?_
 refine c_no rfl ?_
 refine c_exit ?_
 refine f_then_exit ?_
 refine f_then_exit ?_
 refine f_exit ?_
 refine f_then ?_
 refine c_seq ?_
 refine c_seq ?_
 refine c_region ?_
 refine l_val (v:= .int .i64 (0)) rfl rfl rfl (e_assign) ?_
 refine l_nil ?_
 refine f_then ?_
 refine c_block ?_
 refine c_loop (fun(x_:Unit) (f:Fm) (L:List Res)=>match x_ with|()=>(f 0= .slice none 0 0∧f 5= .slice (some ⟨b1,0,none⟩) 0 0∧f 9= .int .i64 (0))∧L=[pt b1 (.cells #[] 218)]∧(True)) (fun(x_:Unit)=>match x_ with|()=>0) () ?_ ?_
 ·exact⟨⟨rfl,rfl,rfl⟩,rfl,trivial⟩
 rintro⟨⟩ f0 L0 ⟨⟨hs0,hs5,hs9⟩,hL,-⟩
 subst L0
 refine rebase (d:=0) hs0 ?_
 refine rebase (d:=5) hs5 ?_
 refine rebase (d:=9) hs9 ?_
 clear hs0 hs5 hs9
 refine c_seq ?_
 refine c_seq ?_
 refine c_region ?_
 refine l_val (v:= .int .i64 (0)) rfl rfl rfl (e_move) ?_
 refine l_val (v:= .slice none 0 0) rfl rfl rfl (e_move) ?_
 refine l_val (v:= .int .i64 (0)) rfl rfl rfl (e_len (n:=0) rfl tf173) ?_
 refine l_val (v:= .bool false) rfl rfl rfl (e_lss (a:=(0:Int)) (b:=(0:Int)) rfl rfl) ?_
 refine l_nil ?_
 refine f_then ?_
 refine c_no rfl ?_
 refine c_exit ?_
 refine f_then_exit ?_
 refine f_then_exit ?_
 refine f_exit ?_
 refine f_then ?_
 refine c_seq ?_
 refine c_seq ?_
 refine c_region ?_
 refine l_val (v:= .int .i64 (0)) rfl rfl rfl (e_assign) ?_
 refine l_nil ?_
 refine f_then ?_
 refine c_block ?_
 refine c_loop (fun(x_:Unit) (f:Fm) (L:List Res)=>match x_ with|()=>(f 0= .slice none 0 0∧f 5= .slice (some ⟨b1,0,none⟩) 0 0∧f 11= .int .i64 (0))∧L=[pt b1 (.cells #[] 218)]∧(True)) (fun(x_:Unit)=>match x_ with|()=>0) () ?_ ?_
 ·exact⟨⟨rfl,rfl,rfl⟩,rfl,trivial⟩
 rintro⟨⟩ f0 L0 ⟨⟨hs0,hs5,hs11⟩,hL,-⟩
 subst L0
 refine rebase (d:=0) hs0 ?_
 refine rebase (d:=5) hs5 ?_
 refine rebase (d:=11) hs11 ?_
 clear hs0 hs5 hs11
 refine c_seq ?_
 refine c_seq ?_
 refine c_region ?_
 refine l_val (v:= .int .i64 (0)) rfl rfl rfl (e_move) ?_
 refine l_val (v:= .slice none 0 0) rfl rfl rfl (e_move) ?_
 refine l_val (v:= .int .i64 (0)) rfl rfl rfl (e_len (n:=0) rfl tf173) ?_
 refine l_val (v:= .bool false) rfl rfl rfl (e_lss (a:=(0:Int)) (b:=(0:Int)) rfl rfl) ?_
 refine l_nil ?_
 refine f_then ?_
 refine c_no rfl ?_
 refine c_exit ?_
 refine f_then_exit ?_
 refine f_then_exit ?_
 refine f_exit ?_
 refine f_then ?_
 refine c_seq ?_
 refine c_seq ?_
 refine c_region ?_
 refine l_val (v:= .int .i64 (0)) rfl rfl rfl (e_assign) ?_
 refine l_nil ?_
 refine f_then ?_
 refine c_block ?_
 refine c_loop (fun(x_:Unit) (f:Fm) (L:List Res)=>match x_ with|()=>(f 0= .slice none 0 0∧f 5= .slice (some ⟨b1,0,none⟩) 0 0∧f 14= .int .i64 (0))∧L=[pt b1 (.cells #[] 218)]∧(True)) (fun(x_:Unit)=>match x_ with|()=>0) () ?_ ?_
 ·exact⟨⟨rfl,rfl,rfl⟩,rfl,trivial⟩
 rintro⟨⟩ f0 L0 ⟨⟨hs0,hs5,hs14⟩,hL,-⟩
 subst L0
 refine rebase (d:=0) hs0 ?_
 refine rebase (d:=5) hs5 ?_
 refine rebase (d:=14) hs14 ?_
 clear hs0 hs5 hs14
 refine c_seq ?_
 refine c_seq ?_
 refine c_region ?_
 refine l_val (v:= .int .i64 (0)) rfl rfl rfl (e_move) ?_
 refine l_val (v:= .slice none 0 0) rfl rfl rfl (e_move) ?_
 refine l_val (v:= .int .i64 (0)) rfl rfl rfl (e_len (n:=0) rfl tf173) ?_
 refine l_val (v:= .bool false) rfl rfl rfl (e_lss (a:=(0:Int)) (b:=(0:Int)) rfl rfl) ?_
 refine l_nil ?_
 refine f_then ?_
 refine c_no rfl ?_
 refine c_exit ?_
 refine f_then_exit ?_
 refine f_then_exit ?_
 refine f_exit ?_
 refine f_then ?_
 refine c_seq ?_
 refine c_region ?_
 refine l_val (v:= .bool true) rfl rfl rfl (e_assign) ?_
 refine l_nil ?_
 refine f_then ?_
 refine c_ret ?_
 refine ret1 Tryz.results84 (v:= .bool true) rfl ?_
 intro w hw
 exact⟨rfl,st_mask [false] rfl hw⟩
set_option maxHeartbeats 4000000 in
theorem flatPortals_nil(β:Base)(w:World)(hw:St β [] w):Calls Tryz.prog 85 #[.slice none 0 0] w fun r w'=>r= .returned (.bool true)∧St β [] w':=by
 refine enter (n:=193) Tryz.func85 rfl Tryz.ntmps85 rfl ?_ hw
 refine c_seq ?_
 refine c_region ?_
 refine l_val (v:= .bool false) rfl rfl rfl (e_assign) ?_
 refine l_nil ?_
 refine f_then ?_
 refine c_seq ?_
 refine c_seq ?_
 refine c_region ?_
 refine l_val (v:= .int .i64 (0)) rfl rfl rfl (e_assign) ?_
 refine l_nil ?_
 refine f_then ?_
 refine c_block ?_
 refine c_loop (fun(x_:Unit) (f:Fm) (L:List Res)=>match x_ with|()=>(f 0= .slice none 0 0∧f 3= .int .i64 (0))∧L=[]∧(True)) (fun(x_:Unit)=>match x_ with|()=>0) () ?_ ?_
 ·exact⟨⟨rfl,rfl⟩,rfl,trivial⟩
 rintro⟨⟩ f0 L0 ⟨⟨hs0,hs3⟩,hL,-⟩
 subst L0
 refine rebase (d:=0) hs0 ?_
 refine rebase (d:=3) hs3 ?_
 clear hs0 hs3
 refine c_seq ?_
 refine c_seq ?_
 refine c_region ?_
 refine l_val (v:= .int .i64 (0)) rfl rfl rfl (e_move) ?_
 refine l_val (v:= .slice none 0 0) rfl rfl rfl (e_move) ?_
 refine l_val (v:= .int .i64 (0)) rfl rfl rfl (e_len (n:=0) rfl tf176) ?_
 refine l_val (v:= .bool false) rfl rfl rfl (e_lss (a:=(0:Int)) (b:=(0:Int)) rfl rfl) ?_
 refine l_nil ?_
 refine f_then ?_
 refine c_no rfl ?_
 refine c_exit ?_
 refine f_then_exit ?_
 refine f_then_exit ?_
 refine f_exit ?_
 refine f_then ?_
 refine c_seq ?_
 refine c_region ?_
 refine l_val (v:= .slice none 0 0) rfl rfl rfl (e_move) ?_
 refine l_val (v:= .int .i64 (0)) rfl rfl rfl (e_len (n:=0) rfl tf176) ?_
 refine l_mv rfl rfl rfl (m_make00 tf177 rfl rfl) ?_
 rintro _ _ ⟨b1,rfl,rfl⟩
 refine l_val (v:= .slice (some ⟨b1,0,none⟩) 0 0) rfl rfl rfl (e_assign) ?_
 refine l_nil ?_
 refine f_then ?_
 refine c_seq ?_
 refine c_seq ?_
 refine c_region ?_
 refine l_val (v:= .int .i64 (0)) rfl rfl rfl (e_assign) ?_
 refine l_nil ?_
 refine f_then ?_
 refine c_block ?_
 refine c_loop (fun(x_:Unit) (f:Fm) (L:List Res)=>match x_ with|()=>(f 0= .slice none 0 0∧f 5= .slice (some ⟨b1,0,none⟩) 0 0∧f 6= .int .i64 (0))∧L=[pt b1 (.cells #[] 222)]∧(True)) (fun(x_:Unit)=>match x_ with|()=>0) () ?_ ?_
 ·exact⟨⟨rfl,rfl,rfl⟩,rfl,trivial⟩
 rintro⟨⟩ f0 L0 ⟨⟨hs0,hs5,hs6⟩,hL,-⟩
 subst L0
 refine rebase (d:=0) hs0 ?_
 refine rebase (d:=5) hs5 ?_
 refine rebase (d:=6) hs6 ?_
 clear hs0 hs5 hs6
 refine c_seq ?_
 refine c_seq ?_
 refine c_region ?_
 refine l_val (v:= .int .i64 (0)) rfl rfl rfl (e_move) ?_
 refine l_val (v:= .slice none 0 0) rfl rfl rfl (e_move) ?_
 refine l_val (v:= .int .i64 (0)) rfl rfl rfl (e_len (n:=0) rfl tf176) ?_
 refine l_val (v:= .bool false) rfl rfl rfl (e_lss (a:=(0:Int)) (b:=(0:Int)) rfl rfl) ?_
 refine l_nil ?_
 refine f_then ?_
 refine c_no rfl ?_
 refine c_exit ?_
 refine f_then_exit ?_
 refine f_then_exit ?_
 refine f_exit ?_
 refine f_then ?_
 refine c_seq ?_
 refine c_seq ?_
 refine c_region ?_
 refine l_val (v:= .int .i64 (0)) rfl rfl rfl (e_assign) ?_
 refine l_nil ?_
 refine f_then ?_
 refine c_block ?_
 refine c_loop (fun(x_:Unit) (f:Fm) (L:List Res)=>match x_ with|()=>(f 0= .slice none 0 0∧f 5= .slice (some ⟨b1,0,none⟩) 0 0∧f 9= .int .i64 (0))∧L=[pt b1 (.cells #[] 222)]∧(True)) (fun(x_:Unit)=>match x_ with|()=>0) () ?_ ?_
 ·exact⟨⟨rfl,rfl,rfl⟩,rfl,trivial⟩
 rintro⟨⟩ f0 L0 ⟨⟨hs0,hs5,hs9⟩,hL,-⟩
 subst L0
 refine rebase (d:=0) hs0 ?_
 refine rebase (d:=5) hs5 ?_
 refine rebase (d:=9) hs9 ?_
 clear hs0 hs5 hs9
 refine c_seq ?_
 refine c_seq ?_
 refine c_region ?_
 refine l_val (v:= .int .i64 (0)) rfl rfl rfl (e_move) ?_
 refine l_val (v:= .slice none 0 0) rfl rfl rfl (e_move) ?_
 refine l_val (v:= .int .i64 (0)) rfl rfl rfl (e_len (n:=0) rfl tf176) ?_
 refine l_val (v:= .bool false) rfl rfl rfl (e_lss (a:=(0:Int)) (b:=(0:Int)) rfl rfl) ?_
 refine l_nil ?_
 refine f_then ?_
 refine c_no rfl ?_
 refine c_exit ?_
 refine f_then_exit ?_
 refine f_then_exit ?_
 refine f_exit ?_
 refine f_then ?_
 refine c_seq ?_
 refine c_seq ?_
 refine c_region ?_
 refine l_val (v:= .int .i64 (0)) rfl rfl rfl (e_assign) ?_
 refine l_nil ?_
 refine f_then ?_
 refine c_block ?_
 refine c_loop (fun(x_:Unit) (f:Fm) (L:List Res)=>match x_ with|()=>(f 0= .slice none 0 0∧f 5= .slice (some ⟨b1,0,none⟩) 0 0∧f 11= .int .i64 (0))∧L=[pt b1 (.cells #[] 222)]∧(True)) (fun(x_:Unit)=>match x_ with|()=>0) () ?_ ?_
 ·exact⟨⟨rfl,rfl,rfl⟩,rfl,trivial⟩
 rintro⟨⟩ f0 L0 ⟨⟨hs0,hs5,hs11⟩,hL,-⟩
 subst L0
 refine rebase (d:=0) hs0 ?_
 refine rebase (d:=5) hs5 ?_
 refine rebase (d:=11) hs11 ?_
 clear hs0 hs5 hs11
 refine c_seq ?_
 refine c_seq ?_
 refine c_region ?_
 refine l_val (v:= .int .i64 (0)) rfl rfl rfl (e_move) ?_
 refine l_val (v:= .slice none 0 0) rfl rfl rfl (e_move) ?_
 refine l_val (v:= .int .i64 (0)) rfl rfl rfl (e_len (n:=0) rfl tf176) ?_
 refine l_val (v:= .bool false) rfl rfl rfl (e_lss (a:=(0:Int)) (b:=(0:Int)) rfl rfl) ?_
 refine l_nil ?_
 refine f_then ?_
 refine c_no rfl ?_
 refine c_exit ?_
 refine f_then_exit ?_
 refine f_then_exit ?_
 refine f_exit ?_
 refine f_then ?_
 refine c_seq ?_
 refine c_seq ?_
 refine c_region ?_
 refine l_val (v:= .int .i64 (0)) rfl rfl rfl (e_assign) ?_
 refine l_nil ?_
 refine f_then ?_
 refine c_block ?_
 refine c_loop (fun(x_:Unit) (f:Fm) (L:List Res)=>match x_ with|()=>(f 0= .slice none 0 0∧f 5= .slice (some ⟨b1,0,none⟩) 0 0∧f 14= .int .i64 (0))∧L=[pt b1 (.cells #[] 222)]∧(True)) (fun(x_:Unit)=>match x_ with|()=>0) () ?_ ?_
 ·exact⟨⟨rfl,rfl,rfl⟩,rfl,trivial⟩
 rintro⟨⟩ f0 L0 ⟨⟨hs0,hs5,hs14⟩,hL,-⟩
 subst L0
 refine rebase (d:=0) hs0 ?_
 refine rebase (d:=5) hs5 ?_
 refine rebase (d:=14) hs14 ?_
 clear hs0 hs5 hs14
 refine c_seq ?_
 refine c_seq ?_
 refine c_region ?_
 refine l_val (v:= .int .i64 (0)) rfl rfl rfl (e_move) ?_
 refine l_val (v:= .slice none 0 0) rfl rfl rfl (e_move) ?_
 refine l_val (v:= .int .i64 (0)) rfl rfl rfl (e_len (n:=0) rfl tf176) ?_
 refine l_val (v:= .bool false) rfl rfl rfl (e_lss (a:=(0:Int)) (b:=(0:Int)) rfl rfl) ?_
 refine l_nil ?_
 refine f_then ?_
 refine c_no rfl ?_
 refine c_exit ?_
 refine f_then_exit ?_
 refine f_then_exit ?_
 refine f_exit ?_
 refine f_then ?_
 refine c_seq ?_
 refine c_region ?_
 refine l_val (v:= .bool true) rfl rfl rfl (e_assign) ?_
 refine l_nil ?_
 refine f_then ?_
 refine c_ret ?_
 refine ret1 Tryz.results85 (v:= .bool true) rfl ?_
 intro w hw
 exact⟨rfl,st_mask [false] rfl hw⟩
set_option maxHeartbeats 4000000 in
theorem flatStores_nil(β:Base)(w:World)(hw:St β [] w):Calls Tryz.prog 86 #[.slice none 0 0] w fun r w'=>r= .returned (.bool true)∧St β [] w':=by
 refine enter (n:=193) Tryz.func86 rfl Tryz.ntmps86 rfl ?_ hw
 refine c_seq ?_
 refine c_region ?_
 refine l_val (v:= .bool false) rfl rfl rfl (e_assign) ?_
 refine l_nil ?_
 refine f_then ?_
 refine c_seq ?_
 refine c_seq ?_
 refine c_region ?_
 refine l_val (v:= .int .i64 (0)) rfl rfl rfl (e_assign) ?_
 refine l_nil ?_
 refine f_then ?_
 refine c_block ?_
 refine c_loop (fun(x_:Unit) (f:Fm) (L:List Res)=>match x_ with|()=>(f 0= .slice none 0 0∧f 3= .int .i64 (0))∧L=[]∧(True)) (fun(x_:Unit)=>match x_ with|()=>0) () ?_ ?_
 ·exact⟨⟨rfl,rfl⟩,rfl,trivial⟩
 rintro⟨⟩ f0 L0 ⟨⟨hs0,hs3⟩,hL,-⟩
 subst L0
 refine rebase (d:=0) hs0 ?_
 refine rebase (d:=3) hs3 ?_
 clear hs0 hs3
 refine c_seq ?_
 refine c_seq ?_
 refine c_region ?_
 refine l_val (v:= .int .i64 (0)) rfl rfl rfl (e_move) ?_
 refine l_val (v:= .slice none 0 0) rfl rfl rfl (e_move) ?_
 refine l_val (v:= .int .i64 (0)) rfl rfl rfl (e_len (n:=0) rfl tf179) ?_
 refine l_val (v:= .bool false) rfl rfl rfl (e_lss (a:=(0:Int)) (b:=(0:Int)) rfl rfl) ?_
 refine l_nil ?_
 refine f_then ?_
 refine c_no rfl ?_
 refine c_exit ?_
 refine f_then_exit ?_
 refine f_then_exit ?_
 refine f_exit ?_
 refine f_then ?_
 refine c_seq ?_
 refine c_region ?_
 refine l_val (v:= .slice none 0 0) rfl rfl rfl (e_move) ?_
 refine l_val (v:= .int .i64 (0)) rfl rfl rfl (e_len (n:=0) rfl tf179) ?_
 refine l_mv rfl rfl rfl (m_make00 tf180 rfl rfl) ?_
 rintro _ _ ⟨b1,rfl,rfl⟩
 refine l_val (v:= .slice (some ⟨b1,0,none⟩) 0 0) rfl rfl rfl (e_assign) ?_
 refine l_nil ?_
 refine f_then ?_
 refine c_seq ?_
 refine c_seq ?_
 refine c_region ?_
 refine l_val (v:= .int .i64 (0)) rfl rfl rfl (e_assign) ?_
 refine l_nil ?_
 refine f_then ?_
 refine c_block ?_
 refine c_loop (fun(x_:Unit) (f:Fm) (L:List Res)=>match x_ with|()=>(f 0= .slice none 0 0∧f 5= .slice (some ⟨b1,0,none⟩) 0 0∧f 6= .int .i64 (0))∧L=[pt b1 (.cells #[] 226)]∧(True)) (fun(x_:Unit)=>match x_ with|()=>0) () ?_ ?_
 ·exact⟨⟨rfl,rfl,rfl⟩,rfl,trivial⟩
 rintro⟨⟩ f0 L0 ⟨⟨hs0,hs5,hs6⟩,hL,-⟩
 subst L0
 refine rebase (d:=0) hs0 ?_
 refine rebase (d:=5) hs5 ?_
 refine rebase (d:=6) hs6 ?_
 clear hs0 hs5 hs6
 refine c_seq ?_
 refine c_seq ?_
 refine c_region ?_
 refine l_val (v:= .int .i64 (0)) rfl rfl rfl (e_move) ?_
 refine l_val (v:= .slice none 0 0) rfl rfl rfl (e_move) ?_
 refine l_val (v:= .int .i64 (0)) rfl rfl rfl (e_len (n:=0) rfl tf179) ?_
 refine l_val (v:= .bool false) rfl rfl rfl (e_lss (a:=(0:Int)) (b:=(0:Int)) rfl rfl) ?_
 refine l_nil ?_
 refine f_then ?_
 refine c_no rfl ?_
 refine c_exit ?_
 refine f_then_exit ?_
 refine f_then_exit ?_
 refine f_exit ?_
 refine f_then ?_
 refine c_seq ?_
 refine c_seq ?_
 refine c_region ?_
 refine l_val (v:= .int .i64 (0)) rfl rfl rfl (e_assign) ?_
 refine l_nil ?_
 refine f_then ?_
 refine c_block ?_
 refine c_loop (fun(x_:Unit) (f:Fm) (L:List Res)=>match x_ with|()=>(f 0= .slice none 0 0∧f 5= .slice (some ⟨b1,0,none⟩) 0 0∧f 9= .int .i64 (0))∧L=[pt b1 (.cells #[] 226)]∧(True)) (fun(x_:Unit)=>match x_ with|()=>0) () ?_ ?_
 ·exact⟨⟨rfl,rfl,rfl⟩,rfl,trivial⟩
 rintro⟨⟩ f0 L0 ⟨⟨hs0,hs5,hs9⟩,hL,-⟩
 subst L0
 refine rebase (d:=0) hs0 ?_
 refine rebase (d:=5) hs5 ?_
 refine rebase (d:=9) hs9 ?_
 clear hs0 hs5 hs9
 refine c_seq ?_
 refine c_seq ?_
 refine c_region ?_
 refine l_val (v:= .int .i64 (0)) rfl rfl rfl (e_move) ?_
 refine l_val (v:= .slice none 0 0) rfl rfl rfl (e_move) ?_
 refine l_val (v:= .int .i64 (0)) rfl rfl rfl (e_len (n:=0) rfl tf179) ?_
 refine l_val (v:= .bool false) rfl rfl rfl (e_lss (a:=(0:Int)) (b:=(0:Int)) rfl rfl) ?_
 refine l_nil ?_
 refine f_then ?_
 refine c_no rfl ?_
 refine c_exit ?_
 refine f_then_exit ?_
 refine f_then_exit ?_
 refine f_exit ?_
 refine f_then ?_
 refine c_seq ?_
 refine c_seq ?_
 refine c_region ?_
 refine l_val (v:= .int .i64 (0)) rfl rfl rfl (e_assign) ?_
 refine l_nil ?_
 refine f_then ?_
 refine c_block ?_
 refine c_loop (fun(x_:Unit) (f:Fm) (L:List Res)=>match x_ with|()=>(f 0= .slice none 0 0∧f 5= .slice (some ⟨b1,0,none⟩) 0 0∧f 11= .int .i64 (0))∧L=[pt b1 (.cells #[] 226)]∧(True)) (fun(x_:Unit)=>match x_ with|()=>0) () ?_ ?_
 ·exact⟨⟨rfl,rfl,rfl⟩,rfl,trivial⟩
 rintro⟨⟩ f0 L0 ⟨⟨hs0,hs5,hs11⟩,hL,-⟩
 subst L0
 refine rebase (d:=0) hs0 ?_
 refine rebase (d:=5) hs5 ?_
 refine rebase (d:=11) hs11 ?_
 clear hs0 hs5 hs11
 refine c_seq ?_
 refine c_seq ?_
 refine c_region ?_
 refine l_val (v:= .int .i64 (0)) rfl rfl rfl (e_move) ?_
 refine l_val (v:= .slice none 0 0) rfl rfl rfl (e_move) ?_
 refine l_val (v:= .int .i64 (0)) rfl rfl rfl (e_len (n:=0) rfl tf179) ?_
 refine l_val (v:= .bool false) rfl rfl rfl (e_lss (a:=(0:Int)) (b:=(0:Int)) rfl rfl) ?_
 refine l_nil ?_
 refine f_then ?_
 refine c_no rfl ?_
 refine c_exit ?_
 refine f_then_exit ?_
 refine f_then_exit ?_
 refine f_exit ?_
 refine f_then ?_
 refine c_seq ?_
 refine c_seq ?_
 refine c_region ?_
 refine l_val (v:= .int .i64 (0)) rfl rfl rfl (e_assign) ?_
 refine l_nil ?_
 refine f_then ?_
 refine c_block ?_
 refine c_loop (fun(x_:Unit) (f:Fm) (L:List Res)=>match x_ with|()=>(f 0= .slice none 0 0∧f 5= .slice (some ⟨b1,0,none⟩) 0 0∧f 14= .int .i64 (0))∧L=[pt b1 (.cells #[] 226)]∧(True)) (fun(x_:Unit)=>match x_ with|()=>0) () ?_ ?_
 ·exact⟨⟨rfl,rfl,rfl⟩,rfl,trivial⟩
 rintro⟨⟩ f0 L0 ⟨⟨hs0,hs5,hs14⟩,hL,-⟩
 subst L0
 refine rebase (d:=0) hs0 ?_
 refine rebase (d:=5) hs5 ?_
 refine rebase (d:=14) hs14 ?_
 clear hs0 hs5 hs14
 refine c_seq ?_
 refine c_seq ?_
 refine c_region ?_
 refine l_val (v:= .int .i64 (0)) rfl rfl rfl (e_move) ?_
 refine l_val (v:= .slice none 0 0) rfl rfl rfl (e_move) ?_
 refine l_val (v:= .int .i64 (0)) rfl rfl rfl (e_len (n:=0) rfl tf179) ?_
 refine l_val (v:= .bool false) rfl rfl rfl (e_lss (a:=(0:Int)) (b:=(0:Int)) rfl rfl) ?_
 refine l_nil ?_
 refine f_then ?_
 refine c_no rfl ?_
 refine c_exit ?_
 refine f_then_exit ?_
 refine f_then_exit ?_
 refine f_exit ?_
 refine f_then ?_
 refine c_seq ?_
 refine c_region ?_
 refine l_val (v:= .bool true) rfl rfl rfl (e_assign) ?_
 refine l_nil ?_
 refine f_then ?_
 refine c_ret ?_
 refine ret1 Tryz.results86 (v:= .bool true) rfl ?_
 intro w hw
 exact⟨rfl,st_mask [false] rfl hw⟩
theorem putP_ok(β:Base)(w:World)(b:Nat)(p:Option Addr)(c:Nat)(hs:List H3)(hn:hs.length≤1000)(vp:Option Addr)(vn vc:Nat)(hw:St β [pt b (.cells #[.slice none 0 0,.slice none 0 0,.slice none 0 0,.slice none 0 0,.slice none 0 0,.slice none 0 0,.slice none 0 0,.slice none 0 0,.slice none 0 0,.slice none 0 0,.slice none 0 0,.slice none 0 0,.slice p (hs.length) c,.slice none 0 0,.slice none 0 0,.slice none 0 0,.slice none 0 0,.slice none 0 0,.slice none 0 0,.slice none 0 0] 110),rowF H3F 38 p c hs] w):Calls Tryz.prog 47 #[.pointer (some ⟨b,0,none⟩),.slice vp vn vc] w fun r w'=>∃p' c',r= .returned (.tuple #[])∧St β [pt b (.cells #[.slice none 0 0,.slice none 0 0,.slice none 0 0,.slice none 0 0,.slice none 0 0,.slice none 0 0,.slice none 0 0,.slice none 0 0,.slice none 0 0,.slice none 0 0,.slice none 0 0,.slice none 0 0,.slice p' ((hs++[(⟨vp,vn,vc⟩:H3)]).length) c',.slice none 0 0,.slice none 0 0,.slice none 0 0,.slice none 0 0,.slice none 0 0,.slice none 0 0,.slice none 0 0] 110),rowF H3F 38 p' c' (hs++[(⟨vp,vn,vc⟩:H3)])] w':=by
 refine enter (n:=14) Tryz.func47 rfl Tryz.ntmps47 rfl ?_ hw
 refine c_region ?_
 refine l_val (v:= .pointer (some ⟨b,0,none⟩)) rfl rfl rfl (e_move) ?_
 refine l_val (v:= .pointer (some ⟨b,0,none⟩)) rfl rfl rfl (e_move) ?_
 refine l_val (v:= .pointer (some ⟨b,0,none⟩)) rfl rfl rfl (e_nil (a:=⟨b,0,none⟩) rfl) ?_
 refine l_val (v:= .pointer (some ⟨b,12,none⟩)) rfl rfl rfl (e_fieldPt (b:=b) (o:=0) rfl tf182) ?_
 refine l_val (v:= .slice p (hs.length) c) rfl rfl rfl (e_load1 tf183 (v:= .slice p (hs.length) c) rfl (k_pt 0 (cs:= #[.slice none 0 0,.slice none 0 0,.slice none 0 0,.slice none 0 0,.slice none 0 0,.slice none 0 0,.slice none 0 0,.slice none 0 0,.slice none 0 0,.slice none 0 0,.slice none 0 0,.slice none 0 0,.slice p (hs.length) c,.slice none 0 0,.slice none 0 0,.slice none 0 0,.slice none 0 0,.slice none 0 0,.slice none 0 0,.slice none 0 0]) (vs:=[.slice p (hs.length) c]) rfl rfl)) ?_
 refine l_val (v:= .slice vp (vn) vc) rfl rfl rfl (e_move) ?_
 refine l_mv rfl rfl rfl (m_slices tf122 tf59 (vs:=[(0,.slice vp (vn) vc)]) (cells:= #[.slice vp (vn) vc]) rfl rfl rfl rfl) ?_
 rintro _ _ ⟨b1,rfl,rfl⟩
 refine l_mv rfl rfl rfl (m_appendFlN (F:=H3F) 2 tf122 tf124 (p:=p) (m:=hs.length) (xs:=hs) (ys:=[(⟨vp,vn,vc⟩:H3)]) (ao:=(some ⟨b1,0,none⟩)) (k:=1) (c:=1) rfl rfl rfl rfl rfl (k_ptFl (z:=(⟨vp,vn,vc⟩:H3)) 0 rfl rfl) (by first|omega|simp only[List.length_nil,List.length_cons,List.length_append,List.length_set];omega) (by first|omega|simp only[List.length_nil,List.length_cons,List.length_append,List.length_set];omega)) ?_
 rintro _ _ ⟨rp2,rc3,rfl,rfl⟩
 refine l_val (v:= .pointer (some ⟨b,0,none⟩)) rfl rfl rfl (e_nil (a:=⟨b,0,none⟩) rfl) ?_
 refine l_val (v:= .pointer (some ⟨b,12,none⟩)) rfl rfl rfl (e_fieldPt (b:=b) (o:=0) rfl tf182) ?_
 refine l_mu rfl rfl (m_store 1 tf183 (b:=b) (o:=12) (T:=110) (cs:= #[.slice none 0 0,.slice none 0 0,.slice none 0 0,.slice none 0 0,.slice none 0 0,.slice none 0 0,.slice none 0 0,.slice none 0 0,.slice none 0 0,.slice none 0 0,.slice none 0 0,.slice none 0 0,.slice p (hs.length) c,.slice none 0 0,.slice none 0 0,.slice none 0 0,.slice none 0 0,.slice none 0 0,.slice none 0 0,.slice none 0 0]) (cs':= #[.slice none 0 0,.slice none 0 0,.slice none 0 0,.slice none 0 0,.slice none 0 0,.slice none 0 0,.slice none 0 0,.slice none 0 0,.slice none 0 0,.slice none 0 0,.slice none 0 0,.slice none 0 0,.slice rp2 ((hs++[(⟨vp,vn,vc⟩:H3)]).length) rc3,.slice none 0 0,.slice none 0 0,.slice none 0 0,.slice none 0 0,.slice none 0 0,.slice none 0 0,.slice none 0 0]) (v:= .slice rp2 ((hs++[(⟨vp,vn,vc⟩:H3)]).length) rc3) rfl rfl rfl rfl rfl rfl rfl) ?_
 refine l_nil ?_
 refine end0 Tryz.results47 ?_
 intro w hw
 replace hw:=hw.perm (L':=[pt b (.cells #[.slice none 0 0,.slice none 0 0,.slice none 0 0,.slice none 0 0,.slice none 0 0,.slice none 0 0,.slice none 0 0,.slice none 0 0,.slice none 0 0,.slice none 0 0,.slice none 0 0,.slice none 0 0,.slice rp2 ((hs++[(⟨vp,vn,vc⟩:H3)]).length) rc3,.slice none 0 0,.slice none 0 0,.slice none 0 0,.slice none 0 0,.slice none 0 0,.slice none 0 0,.slice none 0 0] 110),rowF H3F 38 rp2 rc3 (hs++[(⟨vp,vn,vc⟩:H3)]),pt b1 (.cells #[.slice vp (vn) vc] 38)]) (by exact(perm_ix [1,2,0] 3 rfl (by kernel_rfl) (by kernel_rfl)))
 exact⟨rp2,rc3,rfl,st_mask [true,true,false] rfl hw⟩
set_option maxRecDepth 100000 in
set_option maxHeartbeats 4000000 in
theorem bagP_ok(β:Base)(w:World)(b:Nat)(p:Option Addr)(c:Nat)(hs:List H3)(hn:hs.length≤1000)(hv:List (HV KP))(hhs:hs=hv.map HV.h)(hbd:∀v∈hv,v.xs.length≤1000000)(hw:St β [pt b (.cells #[.slice none 0 0,.slice none 0 0,.slice none 0 0,.slice none 0 0,.slice none 0 0,.slice none 0 0,.slice none 0 0,.slice none 0 0,.slice none 0 0,.slice none 0 0,.slice none 0 0,.slice none 0 0,.slice p (hs.length) c,.slice none 0 0,.slice none 0 0,.slice none 0 0,.slice none 0 0,.slice none 0 0,.slice none 0 0,.slice none 0 0] 110),rowF H3F 38 p c hs,Sat (hv.map (ownV PairF 55))] w):Calls Tryz.prog 48 #[.pointer (some ⟨b,0,none⟩)] w fun r w'=>r= .returned (.bool true)∧St β [] w':=by
 refine enter (n:=141) Tryz.func48 rfl Tryz.ntmps48 rfl ?_ hw
 refine c_seq ?_
 refine c_region ?_
 refine l_val (v:= .bool false) rfl rfl rfl (e_assign) ?_
 refine l_nil ?_
 refine f_then ?_
 refine c_seq ?_
 refine c_perm (L':=[pt b (.cells #[.slice none 0 0,.slice none 0 0,.slice none 0 0,.slice none 0 0,.slice none 0 0,.slice none 0 0,.slice none 0 0,.slice none 0 0,.slice none 0 0,.slice none 0 0,.slice none 0 0,.slice none 0 0,.slice p (hs.length) c,.slice none 0 0,.slice none 0 0,.slice none 0 0,.slice none 0 0,.slice none 0 0,.slice none 0 0,.slice none 0 0] 110),Sat (hv.map (ownV PairF 55)),rowF H3F 38 p c hs]) (perm_ix [0,2,1] 3 rfl (by kernel_rfl) (by kernel_rfl)) ?_
 refine c_freeze2 (M:=[pt b (.cells #[.slice none 0 0,.slice none 0 0,.slice none 0 0,.slice none 0 0,.slice none 0 0,.slice none 0 0,.slice none 0 0,.slice none 0 0,.slice none 0 0,.slice none 0 0,.slice none 0 0,.slice none 0 0,.slice p (hs.length) c,.slice none 0 0,.slice none 0 0,.slice none 0 0,.slice none 0 0,.slice none 0 0,.slice none 0 0,.slice none 0 0] 110),Sat (hv.map (ownV PairF 55))]) (K:=[rowF H3F 38 p c hs]) rfl (fun βf ext1 kn1 bk1=> ?_)
 have hsl:=kn1 _ (k_fl 0 (F:=H3F) rfl)
 obtain⟨-,hcl,hml,hel⟩:=hsl.parts
 refine c_region ?_
 refine l_val (v:= .pointer (some ⟨b,0,none⟩)) rfl rfl rfl (e_move) ?_
 refine l_val (v:= .pointer (some ⟨b,0,none⟩)) rfl rfl rfl (e_nil (a:=⟨b,0,none⟩) rfl) ?_
 refine l_val (v:= .pointer (some ⟨b,0,none⟩)) rfl rfl rfl (e_fieldPt (b:=b) (o:=0) rfl tf184) ?_
 refine l_val (v:= .slice none 0 0) rfl rfl rfl (e_load1 tf185 (v:= .slice none 0 0) rfl (k_pt 0 (cs:= #[.slice none 0 0,.slice none 0 0,.slice none 0 0,.slice none 0 0,.slice none 0 0,.slice none 0 0,.slice none 0 0,.slice none 0 0,.slice none 0 0,.slice none 0 0,.slice none 0 0,.slice none 0 0,.slice p (hs.length) (c),.slice none 0 0,.slice none 0 0,.slice none 0 0,.slice none 0 0,.slice none 0 0,.slice none 0 0,.slice none 0 0]) (vs:=[.slice none 0 0]) rfl rfl)) ?_
 refine l_call rfl rfl rfl (cl_value (fst:=[]) (cap:=[]) (vs:=[.slice none 0 0]) (all:=[.slice none 0 0]) tf186 rfl rfl rfl) ?_
 intro w hw
 obtain⟨β1,sb,kn,hw1,back⟩:=St.frame_all hw
 refine(flatLimbs_nil β1 w hw1).mono ?_
 rintro e w' ⟨rfl,hw'⟩
 refine⟨_,rfl,_,back _ _ hw',?_⟩
 clear hw hw1 hw' back kn sb
 refine l_val (v:= .bool true) rfl rfl rfl (e_move) ?_
 refine g_val (v:= .pointer (some ⟨b,0,none⟩)) rfl rfl rfl rfl rfl (e_move) ?_
 refine g_val (v:= .pointer (some ⟨b,0,none⟩)) rfl rfl rfl rfl rfl (e_nil (a:=⟨b,0,none⟩) rfl) ?_
 refine g_val (v:= .pointer (some ⟨b,1,none⟩)) rfl rfl rfl rfl rfl (e_fieldPt (b:=b) (o:=0) rfl tf187) ?_
 refine g_val (v:= .slice none 0 0) rfl rfl rfl rfl rfl (e_load1 tf188 (v:= .slice none 0 0) rfl (k_pt 0 (cs:= #[.slice none 0 0,.slice none 0 0,.slice none 0 0,.slice none 0 0,.slice none 0 0,.slice none 0 0,.slice none 0 0,.slice none 0 0,.slice none 0 0,.slice none 0 0,.slice none 0 0,.slice none 0 0,.slice p (hs.length) (c),.slice none 0 0,.slice none 0 0,.slice none 0 0,.slice none 0 0,.slice none 0 0,.slice none 0 0,.slice none 0 0]) (vs:=[.slice none 0 0]) rfl rfl)) ?_
 refine g_call rfl rfl rfl rfl rfl (cl_value (fst:=[]) (cap:=[]) (vs:=[.slice none 0 0]) (all:=[.slice none 0 0]) tf189 rfl rfl rfl) ?_
 intro w hw
 obtain⟨β1,sb,kn,hw1,back⟩:=St.frame_all hw
 refine(flatInts_nil β1 w hw1).mono ?_
 rintro e w' ⟨rfl,hw'⟩
 refine⟨_,rfl,_,back _ _ hw',?_⟩
 clear hw hw1 hw' back kn sb
 refine l_val (v:= .bool true) rfl rfl rfl (e_pick_t rfl) ?_
 refine l_val (v:= .bool true) rfl rfl rfl (e_move) ?_
 refine g_val (v:= .pointer (some ⟨b,0,none⟩)) rfl rfl rfl rfl rfl (e_move) ?_
 refine g_val (v:= .pointer (some ⟨b,0,none⟩)) rfl rfl rfl rfl rfl (e_nil (a:=⟨b,0,none⟩) rfl) ?_
 refine g_val (v:= .pointer (some ⟨b,2,none⟩)) rfl rfl rfl rfl rfl (e_fieldPt (b:=b) (o:=0) rfl tf190) ?_
 refine g_val (v:= .slice none 0 0) rfl rfl rfl rfl rfl (e_load1 tf191 (v:= .slice none 0 0) rfl (k_pt 0 (cs:= #[.slice none 0 0,.slice none 0 0,.slice none 0 0,.slice none 0 0,.slice none 0 0,.slice none 0 0,.slice none 0 0,.slice none 0 0,.slice none 0 0,.slice none 0 0,.slice none 0 0,.slice none 0 0,.slice p (hs.length) (c),.slice none 0 0,.slice none 0 0,.slice none 0 0,.slice none 0 0,.slice none 0 0,.slice none 0 0,.slice none 0 0]) (vs:=[.slice none 0 0]) rfl rfl)) ?_
 refine g_call rfl rfl rfl rfl rfl (cl_value (fst:=[]) (cap:=[]) (vs:=[.slice none 0 0]) (all:=[.slice none 0 0]) tf192 rfl rfl rfl) ?_
 intro w hw
 obtain⟨β1,sb,kn,hw1,back⟩:=St.frame_all hw
 refine(flatTexts_nil β1 w hw1).mono ?_
 rintro e w' ⟨rfl,hw'⟩
 refine⟨_,rfl,_,back _ _ hw',?_⟩
 clear hw hw1 hw' back kn sb
 refine l_val (v:= .bool true) rfl rfl rfl (e_pick_t rfl) ?_
 refine l_val (v:= .bool true) rfl rfl rfl (e_move) ?_
 refine g_val (v:= .pointer (some ⟨b,0,none⟩)) rfl rfl rfl rfl rfl (e_move) ?_
 refine g_val (v:= .pointer (some ⟨b,0,none⟩)) rfl rfl rfl rfl rfl (e_nil (a:=⟨b,0,none⟩) rfl) ?_
 refine g_val (v:= .pointer (some ⟨b,3,none⟩)) rfl rfl rfl rfl rfl (e_fieldPt (b:=b) (o:=0) rfl tf193) ?_
 refine g_val (v:= .slice none 0 0) rfl rfl rfl rfl rfl (e_load1 tf194 (v:= .slice none 0 0) rfl (k_pt 0 (cs:= #[.slice none 0 0,.slice none 0 0,.slice none 0 0,.slice none 0 0,.slice none 0 0,.slice none 0 0,.slice none 0 0,.slice none 0 0,.slice none 0 0,.slice none 0 0,.slice none 0 0,.slice none 0 0,.slice p (hs.length) (c),.slice none 0 0,.slice none 0 0,.slice none 0 0,.slice none 0 0,.slice none 0 0,.slice none 0 0,.slice none 0 0]) (vs:=[.slice none 0 0]) rfl rfl)) ?_
 refine g_call rfl rfl rfl rfl rfl (cl_value (fst:=[]) (cap:=[]) (vs:=[.slice none 0 0]) (all:=[.slice none 0 0]) tf195 rfl rfl rfl) ?_
 intro w hw
 obtain⟨β1,sb,kn,hw1,back⟩:=St.frame_all hw
 refine(flatBytes_nil β1 w hw1).mono ?_
 rintro e w' ⟨rfl,hw'⟩
 refine⟨_,rfl,_,back _ _ hw',?_⟩
 clear hw hw1 hw' back kn sb
 refine l_val (v:= .bool true) rfl rfl rfl (e_pick_t rfl) ?_
 refine l_val (v:= .bool true) rfl rfl rfl (e_move) ?_
 refine g_val (v:= .pointer (some ⟨b,0,none⟩)) rfl rfl rfl rfl rfl (e_move) ?_
 refine g_val (v:= .pointer (some ⟨b,0,none⟩)) rfl rfl rfl rfl rfl (e_nil (a:=⟨b,0,none⟩) rfl) ?_
 refine g_val (v:= .pointer (some ⟨b,4,none⟩)) rfl rfl rfl rfl rfl (e_fieldPt (b:=b) (o:=0) rfl tf196) ?_
 refine g_val (v:= .slice none 0 0) rfl rfl rfl rfl rfl (e_load1 tf197 (v:= .slice none 0 0) rfl (k_pt 0 (cs:= #[.slice none 0 0,.slice none 0 0,.slice none 0 0,.slice none 0 0,.slice none 0 0,.slice none 0 0,.slice none 0 0,.slice none 0 0,.slice none 0 0,.slice none 0 0,.slice none 0 0,.slice none 0 0,.slice p (hs.length) (c),.slice none 0 0,.slice none 0 0,.slice none 0 0,.slice none 0 0,.slice none 0 0,.slice none 0 0,.slice none 0 0]) (vs:=[.slice none 0 0]) rfl rfl)) ?_
 refine g_call rfl rfl rfl rfl rfl (cl_value (fst:=[]) (cap:=[]) (vs:=[.slice none 0 0]) (all:=[.slice none 0 0]) tf198 rfl rfl rfl) ?_
 intro w hw
 obtain⟨β1,sb,kn,hw1,back⟩:=St.frame_all hw
 refine(flatComps_nil β1 w hw1).mono ?_
 rintro e w' ⟨rfl,hw'⟩
 refine⟨_,rfl,_,back _ _ hw',?_⟩
 clear hw hw1 hw' back kn sb
 refine l_val (v:= .bool true) rfl rfl rfl (e_pick_t rfl) ?_
 refine l_val (v:= .bool true) rfl rfl rfl (e_move) ?_
 refine g_val (v:= .pointer (some ⟨b,0,none⟩)) rfl rfl rfl rfl rfl (e_move) ?_
 refine g_val (v:= .pointer (some ⟨b,0,none⟩)) rfl rfl rfl rfl rfl (e_nil (a:=⟨b,0,none⟩) rfl) ?_
 refine g_val (v:= .pointer (some ⟨b,5,none⟩)) rfl rfl rfl rfl rfl (e_fieldPt (b:=b) (o:=0) rfl tf199) ?_
 refine g_val (v:= .slice none 0 0) rfl rfl rfl rfl rfl (e_load1 tf200 (v:= .slice none 0 0) rfl (k_pt 0 (cs:= #[.slice none 0 0,.slice none 0 0,.slice none 0 0,.slice none 0 0,.slice none 0 0,.slice none 0 0,.slice none 0 0,.slice none 0 0,.slice none 0 0,.slice none 0 0,.slice none 0 0,.slice none 0 0,.slice p (hs.length) (c),.slice none 0 0,.slice none 0 0,.slice none 0 0,.slice none 0 0,.slice none 0 0,.slice none 0 0,.slice none 0 0]) (vs:=[.slice none 0 0]) rfl rfl)) ?_
 refine g_call rfl rfl rfl rfl rfl (cl_value (fst:=[]) (cap:=[]) (vs:=[.slice none 0 0]) (all:=[.slice none 0 0]) tf201 rfl rfl rfl) ?_
 intro w hw
 obtain⟨β1,sb,kn,hw1,back⟩:=St.frame_all hw
 refine(flatEntities_nil β1 w hw1).mono ?_
 rintro e w' ⟨rfl,hw'⟩
 refine⟨_,rfl,_,back _ _ hw',?_⟩
 clear hw hw1 hw' back kn sb
 refine l_val (v:= .bool true) rfl rfl rfl (e_pick_t rfl) ?_
 refine l_val (v:= .bool true) rfl rfl rfl (e_move) ?_
 refine g_val (v:= .pointer (some ⟨b,0,none⟩)) rfl rfl rfl rfl rfl (e_move) ?_
 refine g_val (v:= .pointer (some ⟨b,0,none⟩)) rfl rfl rfl rfl rfl (e_nil (a:=⟨b,0,none⟩) rfl) ?_
 refine g_val (v:= .pointer (some ⟨b,6,none⟩)) rfl rfl rfl rfl rfl (e_fieldPt (b:=b) (o:=0) rfl tf202) ?_
 refine g_val (v:= .slice none 0 0) rfl rfl rfl rfl rfl (e_load1 tf203 (v:= .slice none 0 0) rfl (k_pt 0 (cs:= #[.slice none 0 0,.slice none 0 0,.slice none 0 0,.slice none 0 0,.slice none 0 0,.slice none 0 0,.slice none 0 0,.slice none 0 0,.slice none 0 0,.slice none 0 0,.slice none 0 0,.slice none 0 0,.slice p (hs.length) (c),.slice none 0 0,.slice none 0 0,.slice none 0 0,.slice none 0 0,.slice none 0 0,.slice none 0 0,.slice none 0 0]) (vs:=[.slice none 0 0]) rfl rfl)) ?_
 refine g_call rfl rfl rfl rfl rfl (cl_value (fst:=[]) (cap:=[]) (vs:=[.slice none 0 0]) (all:=[.slice none 0 0]) tf204 rfl rfl rfl) ?_
 intro w hw
 obtain⟨β1,sb,kn,hw1,back⟩:=St.frame_all hw
 refine(flatWorlds_nil β1 w hw1).mono ?_
 rintro e w' ⟨rfl,hw'⟩
 refine⟨_,rfl,_,back _ _ hw',?_⟩
 clear hw hw1 hw' back kn sb
 refine l_val (v:= .bool true) rfl rfl rfl (e_pick_t rfl) ?_
 refine l_val (v:= .bool true) rfl rfl rfl (e_move) ?_
 refine g_val (v:= .pointer (some ⟨b,0,none⟩)) rfl rfl rfl rfl rfl (e_move) ?_
 refine g_val (v:= .pointer (some ⟨b,0,none⟩)) rfl rfl rfl rfl rfl (e_nil (a:=⟨b,0,none⟩) rfl) ?_
 refine g_val (v:= .pointer (some ⟨b,7,none⟩)) rfl rfl rfl rfl rfl (e_fieldPt (b:=b) (o:=0) rfl tf205) ?_
 refine g_val (v:= .slice none 0 0) rfl rfl rfl rfl rfl (e_load1 tf206 (v:= .slice none 0 0) rfl (k_pt 0 (cs:= #[.slice none 0 0,.slice none 0 0,.slice none 0 0,.slice none 0 0,.slice none 0 0,.slice none 0 0,.slice none 0 0,.slice none 0 0,.slice none 0 0,.slice none 0 0,.slice none 0 0,.slice none 0 0,.slice p (hs.length) (c),.slice none 0 0,.slice none 0 0,.slice none 0 0,.slice none 0 0,.slice none 0 0,.slice none 0 0,.slice none 0 0]) (vs:=[.slice none 0 0]) rfl rfl)) ?_
 refine g_call rfl rfl rfl rfl rfl (cl_value (fst:=[]) (cap:=[]) (vs:=[.slice none 0 0]) (all:=[.slice none 0 0]) tf207 rfl rfl rfl) ?_
 intro w hw
 obtain⟨β1,sb,kn,hw1,back⟩:=St.frame_all hw
 refine(flatVecs_nil β1 w hw1).mono ?_
 rintro e w' ⟨rfl,hw'⟩
 refine⟨_,rfl,_,back _ _ hw',?_⟩
 clear hw hw1 hw' back kn sb
 refine l_val (v:= .bool true) rfl rfl rfl (e_pick_t rfl) ?_
 refine l_val (v:= .bool true) rfl rfl rfl (e_move) ?_
 refine g_val (v:= .pointer (some ⟨b,0,none⟩)) rfl rfl rfl rfl rfl (e_move) ?_
 refine g_val (v:= .pointer (some ⟨b,0,none⟩)) rfl rfl rfl rfl rfl (e_nil (a:=⟨b,0,none⟩) rfl) ?_
 refine g_val (v:= .pointer (some ⟨b,8,none⟩)) rfl rfl rfl rfl rfl (e_fieldPt (b:=b) (o:=0) rfl tf208) ?_
 refine g_val (v:= .slice none 0 0) rfl rfl rfl rfl rfl (e_load1 tf209 (v:= .slice none 0 0) rfl (k_pt 0 (cs:= #[.slice none 0 0,.slice none 0 0,.slice none 0 0,.slice none 0 0,.slice none 0 0,.slice none 0 0,.slice none 0 0,.slice none 0 0,.slice none 0 0,.slice none 0 0,.slice none 0 0,.slice none 0 0,.slice p (hs.length) (c),.slice none 0 0,.slice none 0 0,.slice none 0 0,.slice none 0 0,.slice none 0 0,.slice none 0 0,.slice none 0 0]) (vs:=[.slice none 0 0]) rfl rfl)) ?_
 refine g_call rfl rfl rfl rfl rfl (cl_value (fst:=[]) (cap:=[]) (vs:=[.slice none 0 0]) (all:=[.slice none 0 0]) tf210 rfl rfl rfl) ?_
 intro w hw
 obtain⟨β1,sb,kn,hw1,back⟩:=St.frame_all hw
 refine(flatBodies_nil β1 w hw1).mono ?_
 rintro e w' ⟨rfl,hw'⟩
 refine⟨_,rfl,_,back _ _ hw',?_⟩
 clear hw hw1 hw' back kn sb
 refine l_val (v:= .bool true) rfl rfl rfl (e_pick_t rfl) ?_
 refine l_val (v:= .bool true) rfl rfl rfl (e_move) ?_
 refine g_val (v:= .pointer (some ⟨b,0,none⟩)) rfl rfl rfl rfl rfl (e_move) ?_
 refine g_val (v:= .pointer (some ⟨b,0,none⟩)) rfl rfl rfl rfl rfl (e_nil (a:=⟨b,0,none⟩) rfl) ?_
 refine g_val (v:= .pointer (some ⟨b,9,none⟩)) rfl rfl rfl rfl rfl (e_fieldPt (b:=b) (o:=0) rfl tf211) ?_
 refine g_val (v:= .slice none 0 0) rfl rfl rfl rfl rfl (e_load1 tf212 (v:= .slice none 0 0) rfl (k_pt 0 (cs:= #[.slice none 0 0,.slice none 0 0,.slice none 0 0,.slice none 0 0,.slice none 0 0,.slice none 0 0,.slice none 0 0,.slice none 0 0,.slice none 0 0,.slice none 0 0,.slice none 0 0,.slice none 0 0,.slice p (hs.length) (c),.slice none 0 0,.slice none 0 0,.slice none 0 0,.slice none 0 0,.slice none 0 0,.slice none 0 0,.slice none 0 0]) (vs:=[.slice none 0 0]) rfl rfl)) ?_
 refine g_call rfl rfl rfl rfl rfl (cl_value (fst:=[]) (cap:=[]) (vs:=[.slice none 0 0]) (all:=[.slice none 0 0]) tf213 rfl rfl rfl) ?_
 intro w hw
 obtain⟨β1,sb,kn,hw1,back⟩:=St.frame_all hw
 refine(flatSystems_nil β1 w hw1).mono ?_
 rintro e w' ⟨rfl,hw'⟩
 refine⟨_,rfl,_,back _ _ hw',?_⟩
 clear hw hw1 hw' back kn sb
 refine l_val (v:= .bool true) rfl rfl rfl (e_pick_t rfl) ?_
 refine l_val (v:= .bool true) rfl rfl rfl (e_move) ?_
 refine g_val (v:= .pointer (some ⟨b,0,none⟩)) rfl rfl rfl rfl rfl (e_move) ?_
 refine g_val (v:= .pointer (some ⟨b,0,none⟩)) rfl rfl rfl rfl rfl (e_nil (a:=⟨b,0,none⟩) rfl) ?_
 refine g_val (v:= .pointer (some ⟨b,10,none⟩)) rfl rfl rfl rfl rfl (e_fieldPt (b:=b) (o:=0) rfl tf214) ?_
 refine g_val (v:= .slice none 0 0) rfl rfl rfl rfl rfl (e_load1 tf215 (v:= .slice none 0 0) rfl (k_pt 0 (cs:= #[.slice none 0 0,.slice none 0 0,.slice none 0 0,.slice none 0 0,.slice none 0 0,.slice none 0 0,.slice none 0 0,.slice none 0 0,.slice none 0 0,.slice none 0 0,.slice none 0 0,.slice none 0 0,.slice p (hs.length) (c),.slice none 0 0,.slice none 0 0,.slice none 0 0,.slice none 0 0,.slice none 0 0,.slice none 0 0,.slice none 0 0]) (vs:=[.slice none 0 0]) rfl rfl)) ?_
 refine g_call rfl rfl rfl rfl rfl (cl_value (fst:=[]) (cap:=[]) (vs:=[.slice none 0 0]) (all:=[.slice none 0 0]) tf216 rfl rfl rfl) ?_
 intro w hw
 obtain⟨β1,sb,kn,hw1,back⟩:=St.frame_all hw
 refine(flatInputs_nil β1 w hw1).mono ?_
 rintro e w' ⟨rfl,hw'⟩
 refine⟨_,rfl,_,back _ _ hw',?_⟩
 clear hw hw1 hw' back kn sb
 refine l_val (v:= .bool true) rfl rfl rfl (e_pick_t rfl) ?_
 refine l_val (v:= .bool true) rfl rfl rfl (e_move) ?_
 refine g_val (v:= .pointer (some ⟨b,0,none⟩)) rfl rfl rfl rfl rfl (e_move) ?_
 refine g_val (v:= .pointer (some ⟨b,0,none⟩)) rfl rfl rfl rfl rfl (e_nil (a:=⟨b,0,none⟩) rfl) ?_
 refine g_val (v:= .pointer (some ⟨b,11,none⟩)) rfl rfl rfl rfl rfl (e_fieldPt (b:=b) (o:=0) rfl tf217) ?_
 refine g_val (v:= .slice none 0 0) rfl rfl rfl rfl rfl (e_load1 tf218 (v:= .slice none 0 0) rfl (k_pt 0 (cs:= #[.slice none 0 0,.slice none 0 0,.slice none 0 0,.slice none 0 0,.slice none 0 0,.slice none 0 0,.slice none 0 0,.slice none 0 0,.slice none 0 0,.slice none 0 0,.slice none 0 0,.slice none 0 0,.slice p (hs.length) (c),.slice none 0 0,.slice none 0 0,.slice none 0 0,.slice none 0 0,.slice none 0 0,.slice none 0 0,.slice none 0 0]) (vs:=[.slice none 0 0]) rfl rfl)) ?_
 refine g_call rfl rfl rfl rfl rfl (cl_value (fst:=[]) (cap:=[]) (vs:=[.slice none 0 0]) (all:=[.slice none 0 0]) tf219 rfl rfl rfl) ?_
 intro w hw
 obtain⟨β1,sb,kn,hw1,back⟩:=St.frame_all hw
 refine(flatAreas_nil β1 w hw1).mono ?_
 rintro e w' ⟨rfl,hw'⟩
 refine⟨_,rfl,_,back _ _ hw',?_⟩
 clear hw hw1 hw' back kn sb
 refine l_val (v:= .bool true) rfl rfl rfl (e_pick_t rfl) ?_
 refine l_val (v:= .bool true) rfl rfl rfl (e_move) ?_
 refine g_val (v:= .pointer (some ⟨b,0,none⟩)) rfl rfl rfl rfl rfl (e_move) ?_
 refine g_val (v:= .pointer (some ⟨b,0,none⟩)) rfl rfl rfl rfl rfl (e_nil (a:=⟨b,0,none⟩) rfl) ?_
 refine g_val (v:= .pointer (some ⟨b,12,none⟩)) rfl rfl rfl rfl rfl (e_fieldPt (b:=b) (o:=0) rfl tf182) ?_
 refine g_val (v:= .slice p (hs.length) (c)) rfl rfl rfl rfl rfl (e_load1 tf183 (v:= .slice p (hs.length) (c)) rfl (k_pt 0 (cs:= #[.slice none 0 0,.slice none 0 0,.slice none 0 0,.slice none 0 0,.slice none 0 0,.slice none 0 0,.slice none 0 0,.slice none 0 0,.slice none 0 0,.slice none 0 0,.slice none 0 0,.slice none 0 0,.slice p (hs.length) (c),.slice none 0 0,.slice none 0 0,.slice none 0 0,.slice none 0 0,.slice none 0 0,.slice none 0 0,.slice none 0 0]) (vs:=[.slice p (hs.length) (c)]) rfl rfl)) ?_
 refine g_call rfl rfl rfl rfl rfl (cl_value (fst:=[]) (cap:=[]) (vs:=[.slice p (hs.length) (c)]) (all:=[.slice p (hs.length) (c)]) tf220 rfl rfl rfl) ?_
 intro w hw
 replace hw:=hw.perm (L':=_::_::[]) (by exact((perm_front 0 rfl).trans (perm_front 1 rfl)))
 obtain⟨β1,sb,kn,hw1,back⟩:=St.frame (L:=[_]) (M:=_::[]) hw
 refine(flatP_ok β1 w _ hs hv hhs (Sl.mono _ _ _ _ _ sb hsl) hn hbd hw1).mono ?_
 rintro e w' ⟨rfl,hw'⟩
 refine⟨_,rfl,_,back _ _ hw',?_⟩
 clear hw hw1 hw' back kn sb
 refine l_val (v:= .bool true) rfl rfl rfl (e_pick_t rfl) ?_
 refine l_val (v:= .bool true) rfl rfl rfl (e_move) ?_
 refine g_val (v:= .pointer (some ⟨b,0,none⟩)) rfl rfl rfl rfl rfl (e_move) ?_
 refine g_val (v:= .pointer (some ⟨b,0,none⟩)) rfl rfl rfl rfl rfl (e_nil (a:=⟨b,0,none⟩) rfl) ?_
 refine g_val (v:= .pointer (some ⟨b,13,none⟩)) rfl rfl rfl rfl rfl (e_fieldPt (b:=b) (o:=0) rfl tf221) ?_
 refine g_val (v:= .slice none 0 0) rfl rfl rfl rfl rfl (e_load1 tf222 (v:= .slice none 0 0) rfl (k_pt 0 (cs:= #[.slice none 0 0,.slice none 0 0,.slice none 0 0,.slice none 0 0,.slice none 0 0,.slice none 0 0,.slice none 0 0,.slice none 0 0,.slice none 0 0,.slice none 0 0,.slice none 0 0,.slice none 0 0,.slice p (hs.length) (c),.slice none 0 0,.slice none 0 0,.slice none 0 0,.slice none 0 0,.slice none 0 0,.slice none 0 0,.slice none 0 0]) (vs:=[.slice none 0 0]) rfl rfl)) ?_
 refine g_call rfl rfl rfl rfl rfl (cl_value (fst:=[]) (cap:=[]) (vs:=[.slice none 0 0]) (all:=[.slice none 0 0]) tf223 rfl rfl rfl) ?_
 intro w hw
 obtain⟨β1,sb,kn,hw1,back⟩:=St.frame_all hw
 refine(flatRopes_nil β1 w hw1).mono ?_
 rintro e w' ⟨rfl,hw'⟩
 refine⟨_,rfl,_,back _ _ hw',?_⟩
 clear hw hw1 hw' back kn sb
 refine l_val (v:= .bool true) rfl rfl rfl (e_pick_t rfl) ?_
 refine l_val (v:= .bool true) rfl rfl rfl (e_move) ?_
 refine g_val (v:= .pointer (some ⟨b,0,none⟩)) rfl rfl rfl rfl rfl (e_move) ?_
 refine g_val (v:= .pointer (some ⟨b,0,none⟩)) rfl rfl rfl rfl rfl (e_nil (a:=⟨b,0,none⟩) rfl) ?_
 refine g_val (v:= .pointer (some ⟨b,14,none⟩)) rfl rfl rfl rfl rfl (e_fieldPt (b:=b) (o:=0) rfl tf224) ?_
 refine g_val (v:= .slice none 0 0) rfl rfl rfl rfl rfl (e_load1 tf225 (v:= .slice none 0 0) rfl (k_pt 0 (cs:= #[.slice none 0 0,.slice none 0 0,.slice none 0 0,.slice none 0 0,.slice none 0 0,.slice none 0 0,.slice none 0 0,.slice none 0 0,.slice none 0 0,.slice none 0 0,.slice none 0 0,.slice none 0 0,.slice p (hs.length) (c),.slice none 0 0,.slice none 0 0,.slice none 0 0,.slice none 0 0,.slice none 0 0,.slice none 0 0,.slice none 0 0]) (vs:=[.slice none 0 0]) rfl rfl)) ?_
 refine g_call rfl rfl rfl rfl rfl (cl_value (fst:=[]) (cap:=[]) (vs:=[.slice none 0 0]) (all:=[.slice none 0 0]) tf226 rfl rfl rfl) ?_
 intro w hw
 obtain⟨β1,sb,kn,hw1,back⟩:=St.frame_all hw
 refine(flatExprs_nil β1 w hw1).mono ?_
 rintro e w' ⟨rfl,hw'⟩
 refine⟨_,rfl,_,back _ _ hw',?_⟩
 clear hw hw1 hw' back kn sb
 refine l_val (v:= .bool true) rfl rfl rfl (e_pick_t rfl) ?_
 refine l_val (v:= .bool true) rfl rfl rfl (e_move) ?_
 refine g_val (v:= .pointer (some ⟨b,0,none⟩)) rfl rfl rfl rfl rfl (e_move) ?_
 refine g_val (v:= .pointer (some ⟨b,0,none⟩)) rfl rfl rfl rfl rfl (e_nil (a:=⟨b,0,none⟩) rfl) ?_
 refine g_val (v:= .pointer (some ⟨b,15,none⟩)) rfl rfl rfl rfl rfl (e_fieldPt (b:=b) (o:=0) rfl tf227) ?_
 refine g_val (v:= .slice none 0 0) rfl rfl rfl rfl rfl (e_load1 tf228 (v:= .slice none 0 0) rfl (k_pt 0 (cs:= #[.slice none 0 0,.slice none 0 0,.slice none 0 0,.slice none 0 0,.slice none 0 0,.slice none 0 0,.slice none 0 0,.slice none 0 0,.slice none 0 0,.slice none 0 0,.slice none 0 0,.slice none 0 0,.slice p (hs.length) (c),.slice none 0 0,.slice none 0 0,.slice none 0 0,.slice none 0 0,.slice none 0 0,.slice none 0 0,.slice none 0 0]) (vs:=[.slice none 0 0]) rfl rfl)) ?_
 refine g_call rfl rfl rfl rfl rfl (cl_value (fst:=[]) (cap:=[]) (vs:=[.slice none 0 0]) (all:=[.slice none 0 0]) tf229 rfl rfl rfl) ?_
 intro w hw
 obtain⟨β1,sb,kn,hw1,back⟩:=St.frame_all hw
 refine(flatStmts_nil β1 w hw1).mono ?_
 rintro e w' ⟨rfl,hw'⟩
 refine⟨_,rfl,_,back _ _ hw',?_⟩
 clear hw hw1 hw' back kn sb
 refine l_val (v:= .bool true) rfl rfl rfl (e_pick_t rfl) ?_
 refine l_val (v:= .bool true) rfl rfl rfl (e_move) ?_
 refine g_val (v:= .pointer (some ⟨b,0,none⟩)) rfl rfl rfl rfl rfl (e_move) ?_
 refine g_val (v:= .pointer (some ⟨b,0,none⟩)) rfl rfl rfl rfl rfl (e_nil (a:=⟨b,0,none⟩) rfl) ?_
 refine g_val (v:= .pointer (some ⟨b,16,none⟩)) rfl rfl rfl rfl rfl (e_fieldPt (b:=b) (o:=0) rfl tf230) ?_
 refine g_val (v:= .slice none 0 0) rfl rfl rfl rfl rfl (e_load1 tf231 (v:= .slice none 0 0) rfl (k_pt 0 (cs:= #[.slice none 0 0,.slice none 0 0,.slice none 0 0,.slice none 0 0,.slice none 0 0,.slice none 0 0,.slice none 0 0,.slice none 0 0,.slice none 0 0,.slice none 0 0,.slice none 0 0,.slice none 0 0,.slice p (hs.length) (c),.slice none 0 0,.slice none 0 0,.slice none 0 0,.slice none 0 0,.slice none 0 0,.slice none 0 0,.slice none 0 0]) (vs:=[.slice none 0 0]) rfl rfl)) ?_
 refine g_call rfl rfl rfl rfl rfl (cl_value (fst:=[]) (cap:=[]) (vs:=[.slice none 0 0]) (all:=[.slice none 0 0]) tf232 rfl rfl rfl) ?_
 intro w hw
 obtain⟨β1,sb,kn,hw1,back⟩:=St.frame_all hw
 refine(flatScenes_nil β1 w hw1).mono ?_
 rintro e w' ⟨rfl,hw'⟩
 refine⟨_,rfl,_,back _ _ hw',?_⟩
 clear hw hw1 hw' back kn sb
 refine l_val (v:= .bool true) rfl rfl rfl (e_pick_t rfl) ?_
 refine l_val (v:= .bool true) rfl rfl rfl (e_move) ?_
 refine g_val (v:= .pointer (some ⟨b,0,none⟩)) rfl rfl rfl rfl rfl (e_move) ?_
 refine g_val (v:= .pointer (some ⟨b,0,none⟩)) rfl rfl rfl rfl rfl (e_nil (a:=⟨b,0,none⟩) rfl) ?_
 refine g_val (v:= .pointer (some ⟨b,17,none⟩)) rfl rfl rfl rfl rfl (e_fieldPt (b:=b) (o:=0) rfl tf233) ?_
 refine g_val (v:= .slice none 0 0) rfl rfl rfl rfl rfl (e_load1 tf234 (v:= .slice none 0 0) rfl (k_pt 0 (cs:= #[.slice none 0 0,.slice none 0 0,.slice none 0 0,.slice none 0 0,.slice none 0 0,.slice none 0 0,.slice none 0 0,.slice none 0 0,.slice none 0 0,.slice none 0 0,.slice none 0 0,.slice none 0 0,.slice p (hs.length) (c),.slice none 0 0,.slice none 0 0,.slice none 0 0,.slice none 0 0,.slice none 0 0,.slice none 0 0,.slice none 0 0]) (vs:=[.slice none 0 0]) rfl rfl)) ?_
 refine g_call rfl rfl rfl rfl rfl (cl_value (fst:=[]) (cap:=[]) (vs:=[.slice none 0 0]) (all:=[.slice none 0 0]) tf235 rfl rfl rfl) ?_
 intro w hw
 obtain⟨β1,sb,kn,hw1,back⟩:=St.frame_all hw
 refine(flatStops_nil β1 w hw1).mono ?_
 rintro e w' ⟨rfl,hw'⟩
 refine⟨_,rfl,_,back _ _ hw',?_⟩
 clear hw hw1 hw' back kn sb
 refine l_val (v:= .bool true) rfl rfl rfl (e_pick_t rfl) ?_
 refine l_val (v:= .bool true) rfl rfl rfl (e_move) ?_
 refine g_val (v:= .pointer (some ⟨b,0,none⟩)) rfl rfl rfl rfl rfl (e_move) ?_
 refine g_val (v:= .pointer (some ⟨b,0,none⟩)) rfl rfl rfl rfl rfl (e_nil (a:=⟨b,0,none⟩) rfl) ?_
 refine g_val (v:= .pointer (some ⟨b,18,none⟩)) rfl rfl rfl rfl rfl (e_fieldPt (b:=b) (o:=0) rfl tf236) ?_
 refine g_val (v:= .slice none 0 0) rfl rfl rfl rfl rfl (e_load1 tf237 (v:= .slice none 0 0) rfl (k_pt 0 (cs:= #[.slice none 0 0,.slice none 0 0,.slice none 0 0,.slice none 0 0,.slice none 0 0,.slice none 0 0,.slice none 0 0,.slice none 0 0,.slice none 0 0,.slice none 0 0,.slice none 0 0,.slice none 0 0,.slice p (hs.length) (c),.slice none 0 0,.slice none 0 0,.slice none 0 0,.slice none 0 0,.slice none 0 0,.slice none 0 0,.slice none 0 0]) (vs:=[.slice none 0 0]) rfl rfl)) ?_
 refine g_call rfl rfl rfl rfl rfl (cl_value (fst:=[]) (cap:=[]) (vs:=[.slice none 0 0]) (all:=[.slice none 0 0]) tf238 rfl rfl rfl) ?_
 intro w hw
 obtain⟨β1,sb,kn,hw1,back⟩:=St.frame_all hw
 refine(flatPortals_nil β1 w hw1).mono ?_
 rintro e w' ⟨rfl,hw'⟩
 refine⟨_,rfl,_,back _ _ hw',?_⟩
 clear hw hw1 hw' back kn sb
 refine l_val (v:= .bool true) rfl rfl rfl (e_pick_t rfl) ?_
 refine l_val (v:= .bool true) rfl rfl rfl (e_move) ?_
 refine g_val (v:= .pointer (some ⟨b,0,none⟩)) rfl rfl rfl rfl rfl (e_move) ?_
 refine g_val (v:= .pointer (some ⟨b,0,none⟩)) rfl rfl rfl rfl rfl (e_nil (a:=⟨b,0,none⟩) rfl) ?_
 refine g_val (v:= .pointer (some ⟨b,19,none⟩)) rfl rfl rfl rfl rfl (e_fieldPt (b:=b) (o:=0) rfl tf239) ?_
 refine g_val (v:= .slice none 0 0) rfl rfl rfl rfl rfl (e_load1 tf240 (v:= .slice none 0 0) rfl (k_pt 0 (cs:= #[.slice none 0 0,.slice none 0 0,.slice none 0 0,.slice none 0 0,.slice none 0 0,.slice none 0 0,.slice none 0 0,.slice none 0 0,.slice none 0 0,.slice none 0 0,.slice none 0 0,.slice none 0 0,.slice p (hs.length) (c),.slice none 0 0,.slice none 0 0,.slice none 0 0,.slice none 0 0,.slice none 0 0,.slice none 0 0,.slice none 0 0]) (vs:=[.slice none 0 0]) rfl rfl)) ?_
 refine g_call rfl rfl rfl rfl rfl (cl_value (fst:=[]) (cap:=[]) (vs:=[.slice none 0 0]) (all:=[.slice none 0 0]) tf241 rfl rfl rfl) ?_
 intro w hw
 obtain⟨β1,sb,kn,hw1,back⟩:=St.frame_all hw
 refine(flatStores_nil β1 w hw1).mono ?_
 rintro e w' ⟨rfl,hw'⟩
 refine⟨_,rfl,_,back _ _ hw',?_⟩
 clear hw hw1 hw' back kn sb
 refine l_val (v:= .bool true) rfl rfl rfl (e_pick_t rfl) ?_
 refine l_val (v:= .bool true) rfl rfl rfl (e_assign) ?_
 refine l_nil ?_
 refine f_then ?_
 refine c_ret ?_
 refine ret1 Tryz.results48 (v:= .bool true) rfl ?_
 intro w hw
 exact⟨rfl,st_mask [false] rfl (bk1 _ _ (st_mask [false] rfl hw))⟩
set_option maxHeartbeats 4000000 in
theorem apartP_ok(β:Base)(w:World)(v:Value)(hs:List H3)(hls:Sl H3F.R β.heap v hs)(hn:hs.length≤1000)(hv:List (HV KP))(hhs:hs=hv.map HV.h)(hbd:∀v∈hv,v.xs.length≤1000000)(hw:St β [Sat (hv.map (ownV PairF 55))] w):Calls Tryz.prog 21 #[v] w fun r w'=>r= .returned (.bool true)∧St β [] w':=by
 obtain⟨lsa,lsc,rfl,lsl,lsm,lse⟩:=hls.get
 refine enter (n:=21) Tryz.func21 rfl Tryz.ntmps21 rfl ?_ hw
 refine c_seq ?_
 refine c_region ?_
 refine l_val (v:= .bool false) rfl rfl rfl (e_assign) ?_
 refine l_nil ?_
 refine f_then ?_
 refine c_seq ?_
 refine c_region ?_
 refine l_val (v:= .agg #[.slice none 0 0,.slice none 0 0,.slice none 0 0,.slice none 0 0,.slice none 0 0,.slice none 0 0,.slice none 0 0,.slice none 0 0,.slice none 0 0,.slice none 0 0,.slice none 0 0,.slice none 0 0,.slice none 0 0,.slice none 0 0,.slice none 0 0,.slice none 0 0,.slice none 0 0,.slice none 0 0,.slice none 0 0,.slice none 0 0]) rfl rfl rfl (e_build tf243 tf242 (vs:=[]) (cells:= #[.slice none 0 0,.slice none 0 0,.slice none 0 0,.slice none 0 0,.slice none 0 0,.slice none 0 0,.slice none 0 0,.slice none 0 0,.slice none 0 0,.slice none 0 0,.slice none 0 0,.slice none 0 0,.slice none 0 0,.slice none 0 0,.slice none 0 0,.slice none 0 0,.slice none 0 0,.slice none 0 0,.slice none 0 0,.slice none 0 0]) rfl rfl) ?_
 refine l_mv rfl rfl rfl (m_box (v:= .agg #[.slice none 0 0,.slice none 0 0,.slice none 0 0,.slice none 0 0,.slice none 0 0,.slice none 0 0,.slice none 0 0,.slice none 0 0,.slice none 0 0,.slice none 0 0,.slice none 0 0,.slice none 0 0,.slice none 0 0,.slice none 0 0,.slice none 0 0,.slice none 0 0,.slice none 0 0,.slice none 0 0,.slice none 0 0,.slice none 0 0]) rfl) ?_
 rintro _ _ ⟨b1,rfl,rfl⟩
 refine l_val (v:= .pointer (some ⟨b1,0,none⟩)) rfl rfl rfl (e_assign) ?_
 refine l_nil ?_
 refine f_then ?_
 refine c_seq ?_
 refine c_seq ?_
 refine c_emp (r:=rowF H3F 38 none 0 []) (row_nil _ _ _) ?_
 refine c_region ?_
 refine l_val (v:= .int .i64 (0)) rfl rfl rfl (e_assign) ?_
 refine l_nil ?_
 refine f_then ?_
 refine c_block ?_
 refine c_loop (fun(x_:Nat×Option Addr×Nat) (f:Fm) (L:List Res)=>match x_ with|(k,p,c)=>(f 0= .slice lsa (hs.length) (lsc)∧f 3= .pointer (some ⟨b1,0,none⟩)∧f 4=Nx (k))∧L=[rowF H3F 38 p c (hs.take k),pt b1 (.cells #[.slice none 0 0,.slice none 0 0,.slice none 0 0,.slice none 0 0,.slice none 0 0,.slice none 0 0,.slice none 0 0,.slice none 0 0,.slice none 0 0,.slice none 0 0,.slice none 0 0,.slice none 0 0,.slice p ((hs.take k).length) c,.slice none 0 0,.slice none 0 0,.slice none 0 0,.slice none 0 0,.slice none 0 0,.slice none 0 0,.slice none 0 0] 110),Sat (hv.map (ownV PairF 55))]∧(k≤hs.length)) (fun(x_:Nat×Option Addr×Nat)=>match x_ with|(k,p,c)=>hs.length-k) (0,none,0) ?_ ?_
 ·exact⟨⟨rfl,rfl,rfl⟩,rfl,by omega⟩
 rintro⟨k,p,c⟩ f0 L0 ⟨⟨hs0,hs3,hs4⟩,hL,hk⟩
 subst L0
 refine rebase (d:=0) hs0 ?_
 refine rebase (d:=3) hs3 ?_
 refine rebase (d:=4) hs4 ?_
 clear hs0 hs3 hs4
 have htl:(hs.take k).length≤1000:=by rw[List.length_take];omega
 refine c_seq ?_
 refine c_seq ?_
 refine c_region ?_
 refine l_val (v:=Nx (k)) rfl rfl rfl (e_move) ?_
 refine l_val (v:= .slice lsa (hs.length) (lsc)) rfl rfl rfl (e_move) ?_
 refine l_val (v:=Nx (hs.length)) rfl rfl rfl (e_len (a:=lsa) (n:=hs.length) (c:=lsc) rfl tf121) ?_
 refine l_val (v:= .bool (decide (((k:Nat):Int)<((hs.length:Nat):Int)))) rfl rfl rfl (e_lss (a:=((k:Nat):Int)) (b:=((hs.length:Nat):Int)) rfl rfl) ?_
 refine l_nil ?_
 refine f_then ?_
 refine c_if (((k:Nat):Int)<((hs.length:Nat):Int)) rfl (fun hc2=> ?_) (fun hc2=> ?_)
 ·
  refine c_skip ?_
  refine f_then ?_
  refine c_seq ?_
  refine c_block ?_
  refine c_region ?_
  refine l_val (v:= .pointer (some ⟨b1,0,none⟩)) rfl rfl rfl (e_move) ?_
  refine l_val (v:= .slice lsa (hs.length) (lsc)) rfl rfl rfl (e_move) ?_
  refine l_val (v:=Nx (k)) rfl rfl rfl (e_move) ?_
  obtain⟨x3,hx4⟩:∃x_,(hs)[k]? =some x_:=⟨_,List.getElem?_eq_getElem (by omega)⟩
  obtain⟨ha5,cs6,hc7,rfl⟩:=lse _ _ hx4
  refine l_val (v:= .pointer (some ((ba lsa).add (k*1)))) rfl rfl rfl (e_indexAddr (k:=k) (len:=hs.length) (cap:=lsc) (a:=lsa) rfl rfl tf122 (by omega) ha5) ?_
  refine l_val (v:= .slice x3.p (x3.n) x3.c) rfl rfl rfl (e_load1 tf36 (v:= .slice x3.p (x3.n) x3.c) rfl (Knows.of_base (Cs.mono _ _) hc7)) ?_
  refine l_call rfl rfl rfl (cl_value (fst:=[]) (cap:=[]) (vs:=[.pointer (some ⟨b1,0,none⟩),.slice x3.p (x3.n) x3.c]) (all:=[.pointer (some ⟨b1,0,none⟩),.slice x3.p (x3.n) x3.c]) tf244 rfl rfl rfl) ?_
  intro w hw
  replace hw:=hw.perm (L':=_::_::_::[]) (by exact(((perm_front 2 rfl).trans (perm_front 1 rfl)).trans (perm_front 2 rfl)))
  obtain⟨β1,sb,kn,hw1,back⟩:=St.frame (L:=[_,_]) (M:=_::[]) hw
  refine(putP_ok β1 w b1 p c (hs.take k) (by omega) x3.p x3.n x3.c hw1).mono ?_
  rintro e w' ⟨p9,c10,rfl,hw'⟩
  refine⟨_,rfl,_,back _ _ hw',?_⟩
  clear hw hw1 hw' back kn sb
  refine l_nil ?_
  refine f_block ?_
  refine f_then ?_
  refine c_region ?_
  refine l_val (v:=Nx (k)) rfl rfl rfl (e_move) ?_
  refine l_val (v:=Nx (k+1)) rfl rfl rfl (e_add (a:=((k:Nat):Int)) (b:=(1:Int)) rfl rfl (i64n (by omega) (by omega))) ?_
  refine l_val (v:=Nx (k+1)) rfl rfl rfl (e_assign) ?_
  refine l_nil ?_
  refine f_perm (L':=[rowF H3F 38 p9 c10 ((hs.take k)++[(⟨x3.p,x3.n,x3.c⟩:H3)]),pt b1 (.cells #[.slice none 0 0,.slice none 0 0,.slice none 0 0,.slice none 0 0,.slice none 0 0,.slice none 0 0,.slice none 0 0,.slice none 0 0,.slice none 0 0,.slice none 0 0,.slice none 0 0,.slice none 0 0,.slice p9 (((hs.take k)++[(⟨x3.p,x3.n,x3.c⟩:H3)]).length) c10,.slice none 0 0,.slice none 0 0,.slice none 0 0,.slice none 0 0,.slice none 0 0,.slice none 0 0,.slice none 0 0] 110),Sat (hv.map (ownV PairF 55))]) (perm_ix [1,0,2] 3 rfl (by kernel_rfl) (by kernel_rfl)) ?_
  exact f_cut ⟨(k+1,p9,c10),⟨⟨rfl,rfl,rfl⟩,by rw[tk_snoc hx4],by omega⟩,(show hs.length-(k+1)<hs.length-k from by omega)⟩
 ·
  refine c_exit ?_
  refine f_then_exit ?_
  refine f_then_exit ?_
  refine f_exit ?_
  refine f_then ?_
  refine c_seq ?_
  have htk:hs.take k=hs:=List.take_of_length_le (by omega)
  rw[htk]
  refine c_region ?_
  refine l_val (v:= .pointer (some ⟨b1,0,none⟩)) rfl rfl rfl (e_move) ?_
  refine l_call rfl rfl rfl (cl_value (fst:=[]) (cap:=[]) (vs:=[.pointer (some ⟨b1,0,none⟩)]) (all:=[.pointer (some ⟨b1,0,none⟩)]) tf245 rfl rfl rfl) ?_
  intro w hw
  replace hw:=hw.perm (L':=_::_::_::[]) (by exact(((perm_front 2 rfl).trans (perm_front 1 rfl)).trans (perm_front 2 rfl)))
  obtain⟨β1,sb,kn,hw1,back⟩:=St.frame (L:=[_,_,_]) (M:=[]) hw
  refine(bagP_ok β1 w b1 p c hs hn hv hhs hbd hw1).mono ?_
  rintro e w' ⟨rfl,hw'⟩
  refine⟨_,rfl,_,back _ _ hw',?_⟩
  clear hw hw1 hw' back kn sb
  refine l_val (v:= .bool true) rfl rfl rfl (e_assign) ?_
  refine l_nil ?_
  refine f_then ?_
  refine c_ret ?_
  refine ret1 Tryz.results21 (v:= .bool true) rfl ?_
  intro w hw
  exact⟨rfl,st_mask [] rfl hw⟩
theorem apart2_ok(β:Base)(w:World)(v:Value)(p q:Option Addr)(c d:Nat)(xs ys:List KP)(hx:xs.length≤1000000)(hy:ys.length≤1000000)(hls:Sl H3F.R β.heap v [(⟨p,xs.length,c⟩:H3),⟨q,ys.length,d⟩])(hw:St β [rowF PairF 55 p c xs,rowF PairF 55 q d ys] w):Calls Tryz.prog 21 #[v] w fun r w'=>r= .returned (.bool true)∧St β [] w':=
 apartP_ok β w v _ hls (Nat.le_of_ble_eq_true rfl) [(⟨p,c,xs⟩:HV KP),⟨q,d,ys⟩] rfl (fun v hv=>by
  rcases List.mem_cons.1 hv with e|e
  ·rw[e];exact hx
  ·rw[List.mem_singleton.1 e];exact hy) (St.merge (L:=[rowF PairF 55 p c xs,rowF PairF 55 q d ys]) (M:=[]) hw fun _ q=>q)
theorem markAr_ok(β:Base)(w:World)(hw:St β [] w)(k i:Nat)(hk:k≤1000000)(hi:i≤100000000):Calls Tryz.prog 45 #[Nx k,Nx i] w fun r w'=>r= .returned (.agg (aC (markAr k i)))∧St β [] w':=by
 refine enter (n:=10) Tryz.func45 rfl Tryz.ntmps45 rfl ?_ hw
 refine c_seq ?_
 refine c_region ?_
 refine l_mv rfl rfl rfl (m_alloc tf6) ?_
 rintro _ _ ⟨b1,rfl,rfl⟩
 refine l_nil ?_
 refine f_then ?_
 refine c_seq ?_
 refine c_region ?_
 refine l_val (v:=Nx (k)) rfl rfl rfl (e_move) ?_
 refine l_val (v:=Nx (i)) rfl rfl rfl (e_move) ?_
 refine l_call rfl rfl rfl (cl_value (fst:=[]) (cap:=[]) (vs:=[Nx (k),Nx (i)]) (all:=[Nx (k),Nx (i)]) tf120 rfl rfl rfl) ?_
 intro w hw
 obtain⟨β1,sb,kn,hw1,back⟩:=St.frame_all hw
 refine(mark_ok β1 w hw1 k i (by omega) (by omega)).mono ?_
 rintro e w' ⟨rfl,hw'⟩
 refine⟨_,rfl,_,back _ _ hw',?_⟩
 clear hw hw1 hw' back kn sb
 refine l_val (v:= .agg #[Nx (mrk k i),.int .i64 (0)]) rfl rfl rfl (e_build tf8 tf7 (vs:=[(0,Nx (mrk k i))]) (cells:= #[Nx (mrk k i),.int .i64 (0)]) rfl rfl) ?_
 refine l_val (v:= .agg #[Nx (mrk k i),.int .i64 (0),.int .i64 (0),.int .i64 (0)]) rfl rfl rfl (e_build tf6 tf9 (vs:=[(0,.agg #[Nx (mrk k i),.int .i64 (0)])]) (cells:= #[Nx (mrk k i),.int .i64 (0),.int .i64 (0),.int .i64 (0)]) rfl rfl) ?_
 refine l_mu rfl rfl (m_store 0 tf10 (b:=b1) (o:=0) (T:=32) (cs:= #[.int .i64 (0),.int .i64 (0),.int .i64 (0),.int .i64 (0)]) (cs':= #[Nx (mrk k i),.int .i64 (0),.int .i64 (0),.int .i64 (0)]) (v:= .agg #[Nx (mrk k i),.int .i64 (0),.int .i64 (0),.int .i64 (0)]) rfl rfl rfl rfl rfl rfl rfl) ?_
 refine l_nil ?_
 refine f_then ?_
 refine c_ret ?_
 refine retG (l:=[.cell 4 32]) (m:=[.agg #[Nx (mrk k i),.int .i64 (0),.int .i64 (0),.int .i64 (0)]]) (v:= .agg #[Nx (mrk k i),.int .i64 (0),.int .i64 (0),.int .i64 (0)]) Tryz.results45 ⟨rd_cell tf10 (cs:=[Nx (mrk k i),.int .i64 (0),.int .i64 (0),.int .i64 (0)]) rfl (k_pt 0 (cs:= #[Nx (mrk k i),.int .i64 (0),.int .i64 (0),.int .i64 (0)]) (vs:=[Nx (mrk k i),.int .i64 (0),.int .i64 (0),.int .i64 (0)]) rfl rfl) rfl,trivial⟩ rfl ?_
 intro w hw
 exact⟨rfl,st_mask [false] rfl hw⟩
set_option maxHeartbeats 4000000 in
theorem lentA_ok(β:Base)(w:World)(hw:St β [] w)(v:Value)(xs:List KA)(hs:Sl KAR β.heap v xs)(hn:xs.length≤1048576):Calls Tryz.prog 16 #[v] w fun r w'=>∃p c,r= .returned (.slice p xs.length c)∧St β [rowF AreaF 32 p c (lentX markAr xs)] w':=by
 obtain⟨va,vc,rfl,vl,vm,ve⟩:=hs.get
 refine enter (n:=25) Tryz.func16 rfl Tryz.ntmps16 rfl ?_ hw
 refine c_seq ?_
 refine c_region ?_
 refine l_val (v:= .slice none 0 0) rfl rfl rfl (e_assign) ?_
 refine l_nil ?_
 refine f_then ?_
 refine c_seq ?_
 refine c_region ?_
 refine l_val (v:= .slice va (xs.length) (vc)) rfl rfl rfl (e_move) ?_
 refine l_val (v:=Nx (xs.length)) rfl rfl rfl (e_len (a:=va) (n:=xs.length) (c:=vc) rfl tf42) ?_
 refine l_val (v:=Nx (xs.length+12)) rfl rfl rfl (e_add (a:=((xs.length:Nat):Int)) (b:=(12:Int)) rfl rfl (i64n (by omega) (by omega))) ?_
 refine l_mv rfl rfl rfl (m_make0 (c:=xs.length+12) tf43 tf97 tf6 rfl rfl (by omega) (by unfold maxLen;omega) (by omega)) ?_
 rintro _ _ ⟨b1,rfl,rfl⟩
 refine l_re (L':=[rowF AreaF 32 (some ⟨b1,0,none⟩) (xs.length+12) []]) (by rfl) ?_
 refine l_val (v:= .slice (some ⟨b1,0,none⟩) (0) (xs.length+12)) rfl rfl rfl (e_assign) ?_
 refine l_nil ?_
 refine f_then ?_
 refine c_seq ?_
 refine c_region ?_
 refine l_val (v:= .slice (some ⟨b1,0,none⟩) (0) (xs.length+12)) rfl rfl rfl (e_move) ?_
 refine l_val (v:= .slice va (xs.length) (vc)) rfl rfl rfl (e_move) ?_
 refine l_mv rfl rfl rfl (m_appendFlN (F:=AreaF) 0 tf43 tf97 (p:=(some ⟨b1,0,none⟩)) (m:=0) (xs:=[]) (ys:=xs) (ao:=va) (k:=xs.length) (c:=vc) rfl rfl rfl rfl rfl (Knows.of_base (Elems.mono _ _ _) ve) (by first|omega|simp only[List.length_nil,List.length_cons,List.length_append,List.length_set];omega) (by first|omega|simp only[List.length_nil,List.length_cons,List.length_append,List.length_set];omega)) ?_
 rintro _ _ ⟨rp2,rc3,rfl,rfl⟩
 refine l_val (v:= .slice rp2 (xs.length) rc3) rfl rfl rfl (e_assign) ?_
 refine l_nil ?_
 refine f_then ?_
 refine c_seq ?_
 refine c_seq ?_
 refine c_region ?_
 refine l_val (v:= .int .i64 (0)) rfl rfl rfl (e_assign) ?_
 refine l_nil ?_
 refine f_then ?_
 refine c_block ?_
 refine c_loop (fun(x_:Nat×List KA×Option Addr×Nat) (f:Fm) (L:List Res)=>match x_ with|(k,ys,p,c)=>(f 0= .slice va (xs.length) (vc)∧f 3= .slice p (ys.length) c∧f 4=Nx (k))∧L=[rowF AreaF 32 p c ys]∧(k≤12∧ys=(xs++mkL markAr 1 k))) (fun(x_:Nat×List KA×Option Addr×Nat)=>match x_ with|(k,ys,p,c)=>12-k) (0,xs,rp2,rc3) ?_ ?_
 ·exact⟨⟨rfl,rfl,rfl⟩,rfl,⟨by omega,by rw[mkL_zero,List.append_nil]⟩⟩
 rintro⟨k,ys,p,c⟩ f0 L0 ⟨⟨hs0,hs3,hs4⟩,hL,⟨hk,hys⟩⟩
 subst L0
 refine rebase (d:=0) hs0 ?_
 refine rebase (d:=3) hs3 ?_
 refine rebase (d:=4) hs4 ?_
 clear hs0 hs3 hs4
 have hyl:ys.length=xs.length+k:=by rw[hys,List.length_append,mkL_len]
 refine c_seq ?_
 refine c_seq ?_
 refine c_region ?_
 refine l_val (v:=Nx (k)) rfl rfl rfl (e_move) ?_
 refine l_val (v:= .bool (decide (((k:Nat):Int)<(12:Int)))) rfl rfl rfl (e_lss (a:=((k:Nat):Int)) (b:=(12:Int)) rfl rfl) ?_
 refine l_nil ?_
 refine f_then ?_
 refine c_if (((k:Nat):Int)<(12:Int)) rfl (fun hc4=> ?_) (fun hc4=> ?_)
 ·
  refine c_skip ?_
  refine f_then ?_
  refine c_seq ?_
  refine c_block ?_
  refine c_region ?_
  refine l_val (v:= .slice p (ys.length) c) rfl rfl rfl (e_move) ?_
  refine l_val (v:=Nx (k)) rfl rfl rfl (e_move) ?_
  refine l_call rfl rfl rfl (cl_value (fst:=[]) (cap:=[]) (vs:=[.int .i64 (1),Nx (k)]) (all:=[.int .i64 (1),Nx (k)]) tf246 rfl rfl rfl) ?_
  intro w hw
  obtain⟨β1,sb,kn,hw1,back⟩:=St.frame_all hw
  refine(markAr_ok β1 w hw1 1 k (by omega) (by omega)).mono ?_
  rintro e w' ⟨rfl,hw'⟩
  refine⟨_,rfl,_,back _ _ hw',?_⟩
  clear hw hw1 hw' back kn sb
  refine l_mv rfl rfl rfl (m_slices tf43 tf6 (vs:=[(0,.agg (aC (markAr 1 k)))]) (cells:=(aC (markAr 1 k))) rfl rfl rfl rfl) ?_
  rintro _ _ ⟨b5,rfl,rfl⟩
  refine l_mv rfl rfl rfl (m_appendFlN (F:=AreaF) 1 tf43 tf97 (p:=p) (m:=ys.length) (xs:=ys) (ys:=[(markAr 1 k)]) (ao:=(some ⟨b5,0,none⟩)) (k:=1) (c:=1) rfl rfl rfl rfl rfl (k_ptFl (z:=(markAr 1 k)) 0 rfl rfl) (by first|omega|simp only[List.length_nil,List.length_cons,List.length_append,List.length_set];omega) (by first|omega|simp only[List.length_nil,List.length_cons,List.length_append,List.length_set];omega)) ?_
  rintro _ _ ⟨rp6,rc7,rfl,rfl⟩
  refine l_val (v:= .slice rp6 ((ys++[(markAr 1 k)]).length) rc7) rfl rfl rfl (e_assign) ?_
  refine l_nil ?_
  refine f_block ?_
  refine f_then ?_
  refine c_region ?_
  refine l_val (v:=Nx (k)) rfl rfl rfl (e_move) ?_
  refine l_val (v:=Nx (k+1)) rfl rfl rfl (e_add (a:=((k:Nat):Int)) (b:=(1:Int)) rfl rfl (i64n (by omega) (by omega))) ?_
  refine l_val (v:=Nx (k+1)) rfl rfl rfl (e_assign) ?_
  refine l_nil ?_
  refine f_mask (L':=[rowF AreaF 32 rp6 rc7 (ys++[(markAr 1 k)])]) [false,true] rfl ?_
  exact f_cut ⟨(k+1,(ys++[(markAr 1 k)]),rp6,rc7),⟨⟨rfl,rfl,rfl⟩,rfl,⟨by omega,by rw[hys,List.append_assoc,mkL_succ]⟩⟩,(show 12-(k+1)<12-k from by omega)⟩
 ·
  refine c_exit ?_
  refine f_then_exit ?_
  refine f_then_exit ?_
  refine f_exit ?_
  refine f_then ?_
  refine c_seq ?_
  refine c_rowcap 0 rfl (fun hcl hcm=> ?_)
  have hyl:ys.length=xs.length+k:=by rw[hys,List.length_append,mkL_len]
  refine c_region ?_
  refine l_val (v:= .slice p (ys.length) c) rfl rfl rfl (e_move) ?_
  refine l_val (v:= .slice va (xs.length) (vc)) rfl rfl rfl (e_move) ?_
  refine l_val (v:=Nx (xs.length)) rfl rfl rfl (e_len (a:=va) (n:=xs.length) (c:=vc) rfl tf42) ?_
  refine l_val (v:= .slice p (xs.length) c) rfl rfl rfl (e_slice_hi (a:=p) (len:=ys.length) (cap:=c) (h:=xs.length) tf43 rfl rfl (by omega)) ?_
  refine l_val (v:= .slice p (xs.length) c) rfl rfl rfl (e_assign) ?_
  refine l_nil ?_
  refine f_then ?_
  refine c_ret ?_
  refine ret1 Tryz.results16 (v:= .slice p (xs.length) c) rfl ?_
  intro w hw
  obtain rfl:k=12:=by omega
  subst hys
  exact⟨p,c,rfl,st_mask [true] rfl hw⟩
set_option maxHeartbeats 4000000 in
theorem keptA_ok(β:Base)(w:World)(hw:St β [] w)(p:Option Addr)(c:Nat)(v:Value)(xs:List KA)(hx:xs.length≤1048576)(hs:Sl KAR β.heap (.slice p (lentX markAr xs).length c) (lentX markAr xs))(hv:Sl KAR β.heap v xs):Calls Tryz.prog 20 #[.slice p xs.length c,v] w fun r w'=>r= .returned (.bool true)∧St β [] w':=by
 obtain⟨va,vc,rfl,vl,vm,ve⟩:=hv.get
 obtain⟨_,hpl,hpm,hpe⟩:=hs.parts
 have hll:=lentX_len markAr xs
 refine enter (n:=58) Tryz.func20 rfl Tryz.ntmps20 rfl ?_ hw
 refine c_seq ?_
 refine c_region ?_
 refine l_val (v:= .bool false) rfl rfl rfl (e_assign) ?_
 refine l_nil ?_
 refine f_then ?_
 refine c_seq ?_
 refine c_seq ?_
 refine c_region ?_
 refine l_val (v:= .slice p (xs.length) (c)) rfl rfl rfl (e_move) ?_
 refine l_val (v:=Nx (xs.length)) rfl rfl rfl (e_len (a:=p) (n:=xs.length) (c:=c) rfl tf42) ?_
 refine l_val (v:= .slice va (xs.length) (vc)) rfl rfl rfl (e_move) ?_
 refine l_val (v:=Nx (xs.length)) rfl rfl rfl (e_len (a:=va) (n:=xs.length) (c:=vc) rfl tf42) ?_
 refine l_val (v:= .bool (decide (((xs.length:Nat):Int)≠((xs.length:Nat):Int)))) rfl rfl rfl (e_neq (a:=((xs.length:Nat):Int)) (b:=((xs.length:Nat):Int)) rfl rfl) ?_
 refine l_nil ?_
 refine f_then ?_
 refine c_if (((xs.length:Nat):Int)≠((xs.length:Nat):Int)) rfl (fun hc1=> ?_) (fun hc1=> ?_)
 ·
  exact absurd hc1 (by omega)
 ·
  refine c_skip ?_
  refine f_then ?_
  refine c_seq ?_
  refine c_region ?_
  refine l_val (v:= .slice p (xs.length) (c)) rfl rfl rfl (e_move) ?_
  refine l_val (v:= .slice va (xs.length) (vc)) rfl rfl rfl (e_move) ?_
  refine l_val (v:=Nx (xs.length)) rfl rfl rfl (e_len (a:=va) (n:=xs.length) (c:=vc) rfl tf42) ?_
  refine l_val (v:=Nx (xs.length+12)) rfl rfl rfl (e_add (a:=((xs.length:Nat):Int)) (b:=(12:Int)) rfl rfl (i64n (by omega) (by omega))) ?_
  refine l_val (v:= .slice p (((lentX markAr xs)).length) (c)) rfl rfl rfl (ev_eq (by rw[lentX_len]) (e_slice_hi (a:=p) (len:=xs.length) (cap:=c) (h:=xs.length+12) tf43 rfl rfl (by omega))) ?_
  refine l_val (v:= .slice p (((lentX markAr xs)).length) (c)) rfl rfl rfl (e_assign) ?_
  refine l_nil ?_
  refine f_then ?_
  refine c_seq ?_
  refine c_seq ?_
  refine c_region ?_
  refine l_val (v:= .int .i64 (0)) rfl rfl rfl (e_assign) ?_
  refine l_nil ?_
  refine f_then ?_
  refine c_block ?_
  refine c_loop (fun(k:Nat) (f:Fm) (L:List Res)=>(f 1= .slice va (xs.length) (vc)∧f 5= .slice p (((lentX markAr xs)).length) (c)∧f 6=Nx (k))∧L=[]∧(k≤xs.length+12)) (fun(k:Nat)=>xs.length+12-k) 0 ?_ ?_
  ·exact⟨⟨rfl,rfl,rfl⟩,rfl,(by omega)⟩
  rintro k f0 L0 ⟨⟨hs1,hs5,hs6⟩,hL,hk⟩
  subst L0
  refine rebase (d:=1) hs1 ?_
  refine rebase (d:=5) hs5 ?_
  refine rebase (d:=6) hs6 ?_
  clear hs1 hs5 hs6
  refine c_seq ?_
  refine c_seq ?_
  refine c_region ?_
  refine l_val (v:=Nx (k)) rfl rfl rfl (e_move) ?_
  refine l_val (v:= .slice p (((lentX markAr xs)).length) (c)) rfl rfl rfl (e_move) ?_
  refine l_val (v:=Nx (((lentX markAr xs)).length)) rfl rfl rfl (e_len (a:=p) (n:=((lentX markAr xs)).length) (c:=c) rfl tf42) ?_
  refine l_val (v:= .bool (decide (((k:Nat):Int)<((((lentX markAr xs)).length:Nat):Int)))) rfl rfl rfl (e_lss (a:=((k:Nat):Int)) (b:=((((lentX markAr xs)).length:Nat):Int)) rfl rfl) ?_
  refine l_nil ?_
  refine f_then ?_
  refine c_if (((k:Nat):Int)<((((lentX markAr xs)).length:Nat):Int)) rfl (fun hc2=> ?_) (fun hc2=> ?_)
  ·
   refine c_skip ?_
   refine f_then ?_
   refine c_seq ?_
   refine c_block ?_
   refine c_seq ?_
   refine c_quiet (by kernel_rfl) (by kernel_rfl) ?_
   refine q_val (v:=Nx (k)) rfl rfl rfl (e_move) ?_
   refine q_val (v:= .slice va (xs.length) (vc)) rfl rfl rfl (e_move) ?_
   refine q_val (v:=Nx (xs.length)) rfl rfl rfl (e_len (a:=va) (n:=xs.length) (c:=vc) rfl tf42) ?_
   refine q_val (v:= .bool (decide (((k:Nat):Int)<((xs.length:Nat):Int)))) rfl rfl rfl (e_lss (a:=((k:Nat):Int)) (b:=((xs.length:Nat):Int)) rfl rfl) ?_
   refine q_val (v:= .bool (decide (((k:Nat):Int)<((xs.length:Nat):Int)))) rfl rfl rfl (e_move) ?_
   refine q_split (s:=27) (p:=((k:Nat):Int)<((xs.length:Nat):Int)) rfl (fun hg3=> ?_) (fun hg3=> ?_)
   ·
    refine qg_val (v:= .slice p (((lentX markAr xs)).length) (c)) rfl rfl rfl rfl rfl (e_move) ?_
    refine qg_val (v:=Nx (k)) rfl rfl rfl rfl rfl (e_move) ?_
    obtain⟨x4,hx5⟩:∃x_,((lentX markAr xs))[k]? =some x_:=⟨_,List.getElem?_eq_getElem (by omega)⟩
    obtain⟨ha6,cs7,hc8,rfl⟩:=hpe _ _ hx5
    refine qg_val (v:= .pointer (some ((ba p).add (k*4)))) rfl rfl rfl rfl rfl (e_indexAddr (k:=k) (len:=((lentX markAr xs)).length) (cap:=c) (a:=p) rfl rfl tf43 (by omega) ha6) ?_
    refine qg_val (v:= .agg (aC x4)) rfl rfl rfl rfl rfl (e_load tf10 (cs:=(areaE x4)) rfl (Knows.of_base (Cs.mono _ _) hc8) rfl) ?_
    refine qg_val (v:= .slice va (xs.length) (vc)) rfl rfl rfl rfl rfl (e_move) ?_
    refine qg_val (v:=Nx (k)) rfl rfl rfl rfl rfl (e_move) ?_
    obtain⟨x10,hx11⟩:∃x_,(xs)[k]? =some x_:=⟨_,List.getElem?_eq_getElem (by omega)⟩
    obtain⟨ha12,cs13,hc14,rfl⟩:=ve _ _ hx11
    refine qg_val (v:= .pointer (some ((ba va).add (k*4)))) rfl rfl rfl rfl rfl (e_indexAddr (k:=k) (len:=xs.length) (cap:=vc) (a:=va) rfl rfl tf43 (by omega) ha12) ?_
    refine qg_val (v:= .agg (aC x10)) rfl rfl rfl rfl rfl (e_load tf10 (cs:=(areaE x10)) rfl (Knows.of_base (Cs.mono _ _) hc14) rfl) ?_
    refine qg_val (v:= .bool (decide ((x4.lx)=(x10.lx)∧(x4.ly)=(x10.ly)∧(x4.hx)=(x10.hx)∧(x4.hy)=(x10.hy)))) rfl rfl rfl rfl rfl (e_eql_t (xs:=(areaE x4)) (ys:=(areaE x10)) tf79 tf80 tf81 rfl rfl rfl rfl arr4_eq) ?_
    refine qg_val (v:= .bool (decide (¬((x4.lx)=(x10.lx)∧(x4.ly)=(x10.ly)∧(x4.hx)=(x10.hx)∧(x4.hy)=(x10.hy))))) rfl rfl rfl rfl rfl (e_not_p (p:=(x4.lx)=(x10.lx)∧(x4.ly)=(x10.ly)∧(x4.hx)=(x10.hx)∧(x4.hy)=(x10.hy)) rfl) ?_
    refine q_val (v:= .bool (decide (¬((x4.lx)=(x10.lx)∧(x4.ly)=(x10.ly)∧(x4.hx)=(x10.hx)∧(x4.hy)=(x10.hy))))) rfl rfl rfl (e_pick_t rfl) ?_
    refine q_val (v:= .bool (decide (¬((x4.lx)=(x10.lx)∧(x4.ly)=(x10.ly)∧(x4.hx)=(x10.hx)∧(x4.hy)=(x10.hy))))) rfl rfl rfl (e_move) ?_
    refine q_split (s:=39) (p:=¬((x4.lx)=(x10.lx)∧(x4.ly)=(x10.ly)∧(x4.hx)=(x10.hx)∧(x4.hy)=(x10.hy))) rfl (fun h=> ?_) (fun h=> ?_)
    exact absurd h (Decidable.not_not.2 (area_eq'.1 (lentX_lo hx5 hx11)))
    refine qg_val (v:=Nx (k)) rfl rfl rfl rfl rfl (e_move) ?_
    refine qg_val (v:= .slice va (xs.length) (vc)) rfl rfl rfl rfl rfl (e_move) ?_
    refine qg_val (v:=Nx (xs.length)) rfl rfl rfl rfl rfl (e_len (a:=va) (n:=xs.length) (c:=vc) rfl tf42) ?_
    refine qg_val (v:= .bool (decide (((xs.length:Nat):Int)≤((k:Nat):Int)))) rfl rfl rfl rfl rfl (e_geq (a:=((k:Nat):Int)) (b:=((xs.length:Nat):Int)) rfl rfl) ?_
    refine qg_val (v:= .bool (decide (((xs.length:Nat):Int)≤((k:Nat):Int)))) rfl rfl rfl rfl rfl (e_move) ?_
    refine q_split (s:=44) (p:=((xs.length:Nat):Int)≤((k:Nat):Int)) rfl (fun hg16=> ?_) (fun hg16=> ?_)
    ·
     refine qg_val (v:= .slice p (((lentX markAr xs)).length) (c)) rfl rfl rfl rfl rfl (e_move) ?_
     refine qg_val (v:=Nx (k)) rfl rfl rfl rfl rfl (e_move) ?_
     refine qg_val (v:= .pointer (some ((ba p).add (k*4)))) rfl rfl rfl rfl rfl (e_indexAddr (k:=k) (len:=((lentX markAr xs)).length) (cap:=c) (a:=p) rfl rfl tf43 (by omega) ha6) ?_
     refine qg_val (v:= .agg (aC x4)) rfl rfl rfl rfl rfl (e_load tf10 (cs:=(areaE x4)) rfl (Knows.of_base (Cs.mono _ _) hc8) rfl) ?_
     refine qg_val (v:=Nx (k)) rfl rfl rfl rfl rfl (e_move) ?_
     refine qg_val (v:= .slice va (xs.length) (vc)) rfl rfl rfl rfl rfl (e_move) ?_
     refine qg_val (v:=Nx (xs.length)) rfl rfl rfl rfl rfl (e_len (a:=va) (n:=xs.length) (c:=vc) rfl tf42) ?_
     refine qg_val (v:=Nx (k-xs.length)) rfl rfl rfl rfl rfl (ev_eq (congrArg (Value.int .i64) (by omega)) (e_sub (a:=((k:Nat):Int)) (b:=((xs.length:Nat):Int)) rfl rfl (i64w (by omega)))) ?_
     refine qg_call (v:= .agg (aC (markAr 1 (k-xs.length)))) rfl rfl rfl rfl rfl (cl_value (fst:=[]) (cap:=[]) (vs:=[.int .i64 (1),Nx (k-xs.length)]) (all:=[.int .i64 (1),Nx (k-xs.length)]) tf246 rfl rfl rfl) (fun w hw=> ?_) ?_
     ·obtain⟨β1,sb,kn,hw1,back⟩:=St.frame_all hw
      exact(markAr_ok β1 w hw1 1 (k-xs.length) (by omega) (by omega)).mono (fun e w' ⟨he,hw'⟩=>⟨he,st_mask [] rfl (back _ _ hw')⟩)
     refine qg_val (v:= .bool (decide ((x4.lx)=((markAr 1 (k-xs.length)).lx)∧(x4.ly)=((markAr 1 (k-xs.length)).ly)∧(x4.hx)=((markAr 1 (k-xs.length)).hx)∧(x4.hy)=((markAr 1 (k-xs.length)).hy)))) rfl rfl rfl rfl rfl (e_eql_t (xs:=(areaE x4)) (ys:=(areaE (markAr 1 (k-xs.length)))) tf79 tf80 tf81 rfl rfl rfl rfl arr4_eq) ?_
     refine qg_val (v:= .bool (decide (¬((x4.lx)=((markAr 1 (k-xs.length)).lx)∧(x4.ly)=((markAr 1 (k-xs.length)).ly)∧(x4.hx)=((markAr 1 (k-xs.length)).hx)∧(x4.hy)=((markAr 1 (k-xs.length)).hy))))) rfl rfl rfl rfl rfl (e_not_p (p:=(x4.lx)=((markAr 1 (k-xs.length)).lx)∧(x4.ly)=((markAr 1 (k-xs.length)).ly)∧(x4.hx)=((markAr 1 (k-xs.length)).hx)∧(x4.hy)=((markAr 1 (k-xs.length)).hy)) rfl) ?_
     refine qg_val (v:= .bool (decide (¬((x4.lx)=((markAr 1 (k-xs.length)).lx)∧(x4.ly)=((markAr 1 (k-xs.length)).ly)∧(x4.hx)=((markAr 1 (k-xs.length)).hx)∧(x4.hy)=((markAr 1 (k-xs.length)).hy))))) rfl rfl rfl rfl rfl (e_pick_t rfl) ?_
     refine q_val (v:= .bool (decide (¬((x4.lx)=((markAr 1 (k-xs.length)).lx)∧(x4.ly)=((markAr 1 (k-xs.length)).ly)∧(x4.hx)=((markAr 1 (k-xs.length)).hx)∧(x4.hy)=((markAr 1 (k-xs.length)).hy))))) rfl rfl rfl (e_pick_f rfl) ?_
     refine q_nil ?_
     refine f_then ?_
     refine c_if (¬((x4.lx)=((markAr 1 (k-xs.length)).lx)∧(x4.ly)=((markAr 1 (k-xs.length)).ly)∧(x4.hx)=((markAr 1 (k-xs.length)).hx)∧(x4.hy)=((markAr 1 (k-xs.length)).hy))) rfl (fun hc17=> ?_) (fun hc17=> ?_)
     ·
      exact absurd hc17 (Decidable.not_not.2 (area_eq'.1 (lentX_hi hx5 (by omega))))
     ·
      refine c_skip ?_
      refine f_block ?_
      refine f_then ?_
      refine c_region ?_
      refine l_val (v:=Nx (k)) rfl rfl rfl (e_move) ?_
      refine l_val (v:=Nx (k+1)) rfl rfl rfl (e_add (a:=((k:Nat):Int)) (b:=(1:Int)) rfl rfl (i64n (by omega) (by omega))) ?_
      refine l_val (v:=Nx (k+1)) rfl rfl rfl (e_assign) ?_
      refine l_nil ?_
      exact f_cut ⟨k+1,⟨⟨rfl,rfl,rfl⟩,rfl,(by omega)⟩,(show xs.length+12-(k+1)<xs.length+12-k from by omega)⟩
    ·
     refine q_skip rfl rfl rfl rfl rfl rfl ?_
     refine q_skip rfl rfl rfl rfl rfl rfl ?_
     refine q_skip rfl rfl rfl rfl rfl rfl ?_
     refine q_skip rfl rfl rfl rfl rfl rfl ?_
     refine q_skip rfl rfl rfl rfl rfl rfl ?_
     refine q_skip rfl rfl rfl rfl rfl rfl ?_
     refine q_skip rfl rfl rfl rfl rfl rfl ?_
     refine q_skip rfl rfl rfl rfl rfl rfl ?_
     refine q_skip rfl rfl rfl rfl rfl rfl ?_
     refine q_skip rfl rfl rfl rfl rfl rfl ?_
     refine q_skip rfl rfl rfl rfl rfl rfl ?_
     refine qg_val (v:= .bool false) rfl rfl rfl rfl rfl (e_pick_f rfl) ?_
     refine q_val (v:= .bool false) rfl rfl rfl (e_pick_f rfl) ?_
     refine q_nil ?_
     refine f_then ?_
     refine c_no rfl ?_
     refine c_skip ?_
     refine f_block ?_
     refine f_then ?_
     refine c_region ?_
     refine l_val (v:=Nx (k)) rfl rfl rfl (e_move) ?_
     refine l_val (v:=Nx (k+1)) rfl rfl rfl (e_add (a:=((k:Nat):Int)) (b:=(1:Int)) rfl rfl (i64n (by omega) (by omega))) ?_
     refine l_val (v:=Nx (k+1)) rfl rfl rfl (e_assign) ?_
     refine l_nil ?_
     exact f_cut ⟨k+1,⟨⟨rfl,rfl,rfl⟩,rfl,(by omega)⟩,(show xs.length+12-(k+1)<xs.length+12-k from by omega)⟩
   ·
    refine q_skip rfl rfl rfl rfl rfl rfl ?_
    refine q_skip rfl rfl rfl rfl rfl rfl ?_
    refine q_skip rfl rfl rfl rfl rfl rfl ?_
    refine q_skip rfl rfl rfl rfl rfl rfl ?_
    refine q_skip rfl rfl rfl rfl rfl rfl ?_
    refine q_skip rfl rfl rfl rfl rfl rfl ?_
    refine q_skip rfl rfl rfl rfl rfl rfl ?_
    refine q_skip rfl rfl rfl rfl rfl rfl ?_
    refine q_skip rfl rfl rfl rfl rfl rfl ?_
    refine q_skip rfl rfl rfl rfl rfl rfl ?_
    refine q_val (v:= .bool false) rfl rfl rfl (e_pick_f rfl) ?_
    refine q_val (v:= .bool false) rfl rfl rfl (e_move) ?_
    refine qg_val (v:=Nx (k)) rfl rfl rfl rfl rfl (e_move) ?_
    refine qg_val (v:= .slice va (xs.length) (vc)) rfl rfl rfl rfl rfl (e_move) ?_
    refine qg_val (v:=Nx (xs.length)) rfl rfl rfl rfl rfl (e_len (a:=va) (n:=xs.length) (c:=vc) rfl tf42) ?_
    refine qg_val (v:= .bool (decide (((xs.length:Nat):Int)≤((k:Nat):Int)))) rfl rfl rfl rfl rfl (e_geq (a:=((k:Nat):Int)) (b:=((xs.length:Nat):Int)) rfl rfl) ?_
    refine qg_val (v:= .bool (decide (((xs.length:Nat):Int)≤((k:Nat):Int)))) rfl rfl rfl rfl rfl (e_move) ?_
    refine q_split (s:=44) (p:=((xs.length:Nat):Int)≤((k:Nat):Int)) rfl (fun hg18=> ?_) (fun hg18=> ?_)
    ·
     refine qg_val (v:= .slice p (((lentX markAr xs)).length) (c)) rfl rfl rfl rfl rfl (e_move) ?_
     refine qg_val (v:=Nx (k)) rfl rfl rfl rfl rfl (e_move) ?_
     obtain⟨x19,hx20⟩:∃x_,((lentX markAr xs))[k]? =some x_:=⟨_,List.getElem?_eq_getElem (by omega)⟩
     obtain⟨ha21,cs22,hc23,rfl⟩:=hpe _ _ hx20
     refine qg_val (v:= .pointer (some ((ba p).add (k*4)))) rfl rfl rfl rfl rfl (e_indexAddr (k:=k) (len:=((lentX markAr xs)).length) (cap:=c) (a:=p) rfl rfl tf43 (by omega) ha21) ?_
     refine qg_val (v:= .agg (aC x19)) rfl rfl rfl rfl rfl (e_load tf10 (cs:=(areaE x19)) rfl (Knows.of_base (Cs.mono _ _) hc23) rfl) ?_
     refine qg_val (v:=Nx (k)) rfl rfl rfl rfl rfl (e_move) ?_
     refine qg_val (v:= .slice va (xs.length) (vc)) rfl rfl rfl rfl rfl (e_move) ?_
     refine qg_val (v:=Nx (xs.length)) rfl rfl rfl rfl rfl (e_len (a:=va) (n:=xs.length) (c:=vc) rfl tf42) ?_
     refine qg_val (v:=Nx (k-xs.length)) rfl rfl rfl rfl rfl (ev_eq (congrArg (Value.int .i64) (by omega)) (e_sub (a:=((k:Nat):Int)) (b:=((xs.length:Nat):Int)) rfl rfl (i64w (by omega)))) ?_
     refine qg_call (v:= .agg (aC (markAr 1 (k-xs.length)))) rfl rfl rfl rfl rfl (cl_value (fst:=[]) (cap:=[]) (vs:=[.int .i64 (1),Nx (k-xs.length)]) (all:=[.int .i64 (1),Nx (k-xs.length)]) tf246 rfl rfl rfl) (fun w hw=> ?_) ?_
     ·obtain⟨β1,sb,kn,hw1,back⟩:=St.frame_all hw
      exact(markAr_ok β1 w hw1 1 (k-xs.length) (by omega) (by omega)).mono (fun e w' ⟨he,hw'⟩=>⟨he,st_mask [] rfl (back _ _ hw')⟩)
     refine qg_val (v:= .bool (decide ((x19.lx)=((markAr 1 (k-xs.length)).lx)∧(x19.ly)=((markAr 1 (k-xs.length)).ly)∧(x19.hx)=((markAr 1 (k-xs.length)).hx)∧(x19.hy)=((markAr 1 (k-xs.length)).hy)))) rfl rfl rfl rfl rfl (e_eql_t (xs:=(areaE x19)) (ys:=(areaE (markAr 1 (k-xs.length)))) tf79 tf80 tf81 rfl rfl rfl rfl arr4_eq) ?_
     refine qg_val (v:= .bool (decide (¬((x19.lx)=((markAr 1 (k-xs.length)).lx)∧(x19.ly)=((markAr 1 (k-xs.length)).ly)∧(x19.hx)=((markAr 1 (k-xs.length)).hx)∧(x19.hy)=((markAr 1 (k-xs.length)).hy))))) rfl rfl rfl rfl rfl (e_not_p (p:=(x19.lx)=((markAr 1 (k-xs.length)).lx)∧(x19.ly)=((markAr 1 (k-xs.length)).ly)∧(x19.hx)=((markAr 1 (k-xs.length)).hx)∧(x19.hy)=((markAr 1 (k-xs.length)).hy)) rfl) ?_
     refine qg_val (v:= .bool (decide (¬((x19.lx)=((markAr 1 (k-xs.length)).lx)∧(x19.ly)=((markAr 1 (k-xs.length)).ly)∧(x19.hx)=((markAr 1 (k-xs.length)).hx)∧(x19.hy)=((markAr 1 (k-xs.length)).hy))))) rfl rfl rfl rfl rfl (e_pick_t rfl) ?_
     refine q_val (v:= .bool (decide (¬((x19.lx)=((markAr 1 (k-xs.length)).lx)∧(x19.ly)=((markAr 1 (k-xs.length)).ly)∧(x19.hx)=((markAr 1 (k-xs.length)).hx)∧(x19.hy)=((markAr 1 (k-xs.length)).hy))))) rfl rfl rfl (e_pick_f rfl) ?_
     refine q_nil ?_
     refine f_then ?_
     refine c_if (¬((x19.lx)=((markAr 1 (k-xs.length)).lx)∧(x19.ly)=((markAr 1 (k-xs.length)).ly)∧(x19.hx)=((markAr 1 (k-xs.length)).hx)∧(x19.hy)=((markAr 1 (k-xs.length)).hy))) rfl (fun hc25=> ?_) (fun hc25=> ?_)
     ·
      exact absurd hc25 (Decidable.not_not.2 (area_eq'.1 (lentX_hi hx20 (by omega))))
     ·
      refine c_skip ?_
      refine f_block ?_
      refine f_then ?_
      refine c_region ?_
      refine l_val (v:=Nx (k)) rfl rfl rfl (e_move) ?_
      refine l_val (v:=Nx (k+1)) rfl rfl rfl (e_add (a:=((k:Nat):Int)) (b:=(1:Int)) rfl rfl (i64n (by omega) (by omega))) ?_
      refine l_val (v:=Nx (k+1)) rfl rfl rfl (e_assign) ?_
      refine l_nil ?_
      exact f_cut ⟨k+1,⟨⟨rfl,rfl,rfl⟩,rfl,(by omega)⟩,(show xs.length+12-(k+1)<xs.length+12-k from by omega)⟩
    ·
     refine q_skip rfl rfl rfl rfl rfl rfl ?_
     refine q_skip rfl rfl rfl rfl rfl rfl ?_
     refine q_skip rfl rfl rfl rfl rfl rfl ?_
     refine q_skip rfl rfl rfl rfl rfl rfl ?_
     refine q_skip rfl rfl rfl rfl rfl rfl ?_
     refine q_skip rfl rfl rfl rfl rfl rfl ?_
     refine q_skip rfl rfl rfl rfl rfl rfl ?_
     refine q_skip rfl rfl rfl rfl rfl rfl ?_
     refine q_skip rfl rfl rfl rfl rfl rfl ?_
     refine q_skip rfl rfl rfl rfl rfl rfl ?_
     refine q_skip rfl rfl rfl rfl rfl rfl ?_
     refine qg_val (v:= .bool false) rfl rfl rfl rfl rfl (e_pick_f rfl) ?_
     refine q_val (v:= .bool false) rfl rfl rfl (e_pick_f rfl) ?_
     refine q_nil ?_
     refine f_then ?_
     refine c_no rfl ?_
     refine c_skip ?_
     refine f_block ?_
     refine f_then ?_
     refine c_region ?_
     refine l_val (v:=Nx (k)) rfl rfl rfl (e_move) ?_
     refine l_val (v:=Nx (k+1)) rfl rfl rfl (e_add (a:=((k:Nat):Int)) (b:=(1:Int)) rfl rfl (i64n (by omega) (by omega))) ?_
     refine l_val (v:=Nx (k+1)) rfl rfl rfl (e_assign) ?_
     refine l_nil ?_
     exact f_cut ⟨k+1,⟨⟨rfl,rfl,rfl⟩,rfl,(by omega)⟩,(show xs.length+12-(k+1)<xs.length+12-k from by omega)⟩
  ·
   refine c_exit ?_
   refine f_then_exit ?_
   refine f_then_exit ?_
   refine f_exit ?_
   refine f_then ?_
   refine c_seq ?_
   refine c_region ?_
   refine l_val (v:= .bool true) rfl rfl rfl (e_assign) ?_
   refine l_nil ?_
   refine f_then ?_
   refine c_ret ?_
   refine ret1 Tryz.results20 (v:= .bool true) rfl ?_
   intro w hw
   exact⟨rfl,st_mask [] rfl hw⟩
set_option maxHeartbeats 4000000 in
theorem rpairs_ok(β:Base)(w:World)(hw:St β [] w)(v:Value)(l:List KA)(hs:Sl KAR β.heap v l)(hn:l.length≤1048576):Calls Tryz.prog 18 #[v] w fun r w'=>∃p c,r= .returned (.tuple #[.slice p (pairsX l).length c,Ix (errP l)])∧St β [rowF PairF 55 p c (pairsX l)] w':=by
 obtain⟨va,vc,rfl,vl,vm,ve⟩:=hs.get
 refine enter (n:=53) Tryz.func18 rfl Tryz.ntmps18 rfl ?_ hw
 refine c_seq ?_
 refine c_region ?_
 refine l_val (v:= .slice none 0 0) rfl rfl rfl (e_assign) ?_
 refine l_val (v:= .int .i64 (0)) rfl rfl rfl (e_assign) ?_
 refine l_nil ?_
 refine f_then ?_
 refine c_seq ?_
 refine c_seq ?_
 refine c_region ?_
 refine l_val (v:= .int .i64 (0)) rfl rfl rfl (e_assign) ?_
 refine l_nil ?_
 refine f_then ?_
 refine c_block ?_
 refine c_loop (fun(k:Nat) (f:Fm) (L:List Res)=>(f 0= .slice va (l.length) (vc)∧f 4=Nx (k))∧L=[]∧(k≤l.length∧∀a∈l.take k,okA a)) (fun(k:Nat)=>l.length-k) 0 ?_ ?_
 ·exact⟨⟨rfl,rfl⟩,rfl,⟨by omega,by simp⟩⟩
 rintro k f0 L0 ⟨⟨hs0,hs4⟩,hL,⟨hk,hall⟩⟩
 subst L0
 refine rebase (d:=0) hs0 ?_
 refine rebase (d:=4) hs4 ?_
 clear hs0 hs4
 refine c_seq ?_
 refine c_seq ?_
 refine c_region ?_
 refine l_val (v:=Nx (k)) rfl rfl rfl (e_move) ?_
 refine l_val (v:= .slice va (l.length) (vc)) rfl rfl rfl (e_move) ?_
 refine l_val (v:=Nx (l.length)) rfl rfl rfl (e_len (a:=va) (n:=l.length) (c:=vc) rfl tf42) ?_
 refine l_val (v:= .bool (decide (((k:Nat):Int)<((l.length:Nat):Int)))) rfl rfl rfl (e_lss (a:=((k:Nat):Int)) (b:=((l.length:Nat):Int)) rfl rfl) ?_
 refine l_nil ?_
 refine f_then ?_
 refine c_if (((k:Nat):Int)<((l.length:Nat):Int)) rfl (fun hc1=> ?_) (fun hc1=> ?_)
 ·
  refine c_skip ?_
  refine f_then ?_
  refine c_seq ?_
  refine c_block ?_
  refine c_seq ?_
  refine c_region ?_
  refine l_val (v:= .slice va (l.length) (vc)) rfl rfl rfl (e_move) ?_
  refine l_val (v:=Nx (k)) rfl rfl rfl (e_move) ?_
  obtain⟨x2,hx3⟩:∃x_,(l)[k]? =some x_:=⟨_,List.getElem?_eq_getElem (by omega)⟩
  obtain⟨ha4,cs5,hc6,rfl⟩:=ve _ _ hx3
  refine l_val (v:= .pointer (some ((ba va).add (k*4)))) rfl rfl rfl (e_indexAddr (k:=k) (len:=l.length) (cap:=vc) (a:=va) rfl rfl tf43 (by omega) ha4) ?_
  refine l_val (v:= .agg (aC x2)) rfl rfl rfl (e_load tf10 (cs:=(areaE x2)) rfl (Knows.of_base (Cs.mono _ _) hc6) rfl) ?_
  refine l_call rfl rfl rfl (cl_value (fst:=[]) (cap:=[]) (vs:=[.agg (aC x2)]) (all:=[.agg (aC x2)]) tf105 rfl rfl rfl) ?_
  intro w hw
  obtain⟨β1,sb,kn,hw1,back⟩:=St.frame_all hw
  refine(rvalid_ok β1 w hw1 x2).mono ?_
  rintro e w' ⟨rfl,hw'⟩
  refine⟨_,rfl,_,back _ _ hw',?_⟩
  clear hw hw1 hw' back kn sb
  refine l_val (v:= .bool (decide (¬(okA x2)))) rfl rfl rfl (e_not_p (p:=okA x2) rfl) ?_
  refine l_nil ?_
  refine f_then ?_
  refine c_if (¬(okA x2)) rfl (fun hc8=> ?_) (fun hc8=> ?_)
  ·
   refine c_seq ?_
   refine c_region ?_
   refine l_val (v:= .slice none 0 0) rfl rfl rfl (e_assign) ?_
   refine l_val (v:= .int .i64 (2)) rfl rfl rfl (e_assign) ?_
   refine l_nil ?_
   refine f_then ?_
   refine c_ret ?_
   refine f_block_ret ?_
   refine f_then_ret ?_
   refine f_then_ret ?_
   refine f_block_ret ?_
   refine f_then_ret ?_
   refine ret2 (v:= .slice none 0 0) (v':= .int .i64 (2)) Tryz.results18 rfl rfl ?_
   intro w hw
   have he:=errP_arg hx3 (by simpa using hc8)
   rw[he,pairsX_bad (by rw[he];decide)]
   exact⟨none,0,rfl,(st_mask [] rfl hw).emp (row_nil _ _ _)⟩
  ·
   refine c_skip ?_
   refine f_block ?_
   refine f_then ?_
   refine c_region ?_
   refine l_val (v:=Nx (k)) rfl rfl rfl (e_move) ?_
   refine l_val (v:=Nx (k+1)) rfl rfl rfl (e_add (a:=((k:Nat):Int)) (b:=(1:Int)) rfl rfl (i64n (by omega) (by omega))) ?_
   refine l_val (v:=Nx (k+1)) rfl rfl rfl (e_assign) ?_
   refine l_nil ?_
   exact f_cut ⟨k+1,⟨⟨rfl,rfl⟩,rfl,⟨by omega,okall_next hx3 hall (Decidable.not_not.1 hc8)⟩⟩,(show l.length-(k+1)<l.length-k from by omega)⟩
 ·
  refine c_exit ?_
  refine f_then_exit ?_
  refine f_then_exit ?_
  refine f_exit ?_
  refine f_then ?_
  refine c_seq ?_
  refine c_seq ?_
  refine c_region ?_
  refine l_val (v:= .slice va (l.length) (vc)) rfl rfl rfl (e_move) ?_
  refine l_val (v:=Nx (l.length)) rfl rfl rfl (e_len (a:=va) (n:=l.length) (c:=vc) rfl tf42) ?_
  refine l_val (v:= .bool (decide ((128:Int)<((l.length:Nat):Int)))) rfl rfl rfl (e_gtr (a:=((l.length:Nat):Int)) (b:=(128:Int)) rfl rfl) ?_
  refine l_nil ?_
  refine f_then ?_
  refine c_if ((128:Int)<((l.length:Nat):Int)) rfl (fun hc9=> ?_) (fun hc9=> ?_)
  ·
   refine c_seq ?_
   refine c_region ?_
   refine l_val (v:= .slice none 0 0) rfl rfl rfl (e_assign) ?_
   refine l_val (v:= .int .i64 (5)) rfl rfl rfl (e_assign) ?_
   refine l_nil ?_
   refine f_then ?_
   refine c_ret ?_
   refine f_then_ret ?_
   refine ret2 (v:= .slice none 0 0) (v':= .int .i64 (5)) Tryz.results18 rfl rfl ?_
   intro w hw
   have he:=errP_many (by rw[List.take_of_length_le (by omega)]at hall;exact hall) (by omega)
   rw[he,pairsX_bad (by rw[he];decide)]
   exact⟨none,0,rfl,(st_mask [] rfl hw).emp (row_nil _ _ _)⟩
  ·
   refine c_skip ?_
   refine f_then ?_
   refine c_seq ?_
   have hok:∀a∈l,okA a:=by rw[List.take_of_length_le (by omega)]at hall;exact hall
   have hlen:l.length≤128:=by omega
   refine c_region ?_
   refine l_val (v:= .slice none 0 0) rfl rfl rfl (e_assign) ?_
   refine l_nil ?_
   refine f_then ?_
   refine c_seq ?_
   refine c_seq ?_
   refine c_emp (r:=rowF PairF 55 none 0 []) (row_nil _ _ _) ?_
   refine c_region ?_
   refine l_val (v:= .int .i64 (0)) rfl rfl rfl (e_assign) ?_
   refine l_nil ?_
   refine f_then ?_
   refine c_block ?_
   refine c_loop (fun(x_:Nat×List KP×Option Addr×Nat) (f:Fm) (L:List Res)=>match x_ with|(i,out,p,c)=>(f 0= .slice va (l.length) (vc)∧f 5= .slice p (out.length) c∧f 6=Nx (i))∧L=[rowF PairF 55 p c out]∧(i≤l.length∧out++pairsT ((things l 0).drop i)=pairsA l)) (fun(x_:Nat×List KP×Option Addr×Nat)=>match x_ with|(i,out,p,c)=>l.length-i) (0,[],none,0) ?_ ?_
   ·exact⟨⟨rfl,rfl,rfl⟩,rfl,⟨by omega,(pairsA_eq l).symm⟩⟩
   rintro⟨i,out,p,c⟩ f0 L0 ⟨⟨hs0,hs5,hs6⟩,hL,⟨hi,hout⟩⟩
   subst L0
   refine rebase (d:=0) hs0 ?_
   refine rebase (d:=5) hs5 ?_
   refine rebase (d:=6) hs6 ?_
   clear hs0 hs5 hs6
   refine c_seq ?_
   refine c_seq ?_
   refine c_region ?_
   refine l_val (v:=Nx (i)) rfl rfl rfl (e_move) ?_
   refine l_val (v:= .slice va (l.length) (vc)) rfl rfl rfl (e_move) ?_
   refine l_val (v:=Nx (l.length)) rfl rfl rfl (e_len (a:=va) (n:=l.length) (c:=vc) rfl tf42) ?_
   refine l_val (v:= .bool (decide (((i:Nat):Int)<((l.length:Nat):Int)))) rfl rfl rfl (e_lss (a:=((i:Nat):Int)) (b:=((l.length:Nat):Int)) rfl rfl) ?_
   refine l_nil ?_
   refine f_then ?_
   refine c_if (((i:Nat):Int)<((l.length:Nat):Int)) rfl (fun hc10=> ?_) (fun hc10=> ?_)
   ·
    refine c_skip ?_
    refine f_then ?_
    refine c_seq ?_
    refine c_block ?_
    refine c_seq ?_
    refine c_region ?_
    refine l_val (v:=Nx (i)) rfl rfl rfl (e_move) ?_
    refine l_val (v:=Nx (i+1)) rfl rfl rfl (e_add (a:=((i:Nat):Int)) (b:=(1:Int)) rfl rfl (i64n (by omega) (by omega))) ?_
    refine l_val (v:=Nx (i+1)) rfl rfl rfl (e_assign) ?_
    refine l_nil ?_
    refine f_then ?_
    refine c_block ?_
    obtain⟨x,hx⟩:∃x_,l[i]? =some x_:=⟨_,List.getElem?_eq_getElem (by omega)⟩
    rw[rp_row hx]at hout
    refine c_loop (fun(x_:Nat×List KP×Option Addr×Nat) (f:Fm) (L:List Res)=>match x_ with|(k,ou,q,d)=>(f 0= .slice va (l.length) (vc)∧f 5= .slice q (ou.length) d∧f 6=Nx (i)∧f 7=Nx (k))∧L=[rowF PairF 55 q d ou]∧(i<k∧k≤l.length∧ou++(hitsT ⟨(i:Int),x⟩ ((things l 0).drop k)++pairsT ((things l 0).drop (i+1)))=pairsA l)) (fun(x_:Nat×List KP×Option Addr×Nat)=>match x_ with|(k,ou,q,d)=>l.length-k) ((i+1),out,p,c) ?_ ?_
    ·exact⟨⟨rfl,rfl,rfl,rfl⟩,rfl,⟨by omega,by omega,hout⟩⟩
    rintro⟨k,ou,q,d⟩ f0 L0 ⟨⟨hs0,hs5,hs6,hs7⟩,hL,⟨hik,hkl,hin⟩⟩
    subst L0
    refine rebase (d:=0) hs0 ?_
    refine rebase (d:=5) hs5 ?_
    refine rebase (d:=6) hs6 ?_
    refine rebase (d:=7) hs7 ?_
    clear hs0 hs5 hs6 hs7
    have hol:=rp_len hin (by omega)
    refine c_seq ?_
    refine c_seq ?_
    refine c_region ?_
    refine l_val (v:=Nx (k)) rfl rfl rfl (e_move) ?_
    refine l_val (v:= .slice va (l.length) (vc)) rfl rfl rfl (e_move) ?_
    refine l_val (v:=Nx (l.length)) rfl rfl rfl (e_len (a:=va) (n:=l.length) (c:=vc) rfl tf42) ?_
    refine l_val (v:= .bool (decide (((k:Nat):Int)<((l.length:Nat):Int)))) rfl rfl rfl (e_lss (a:=((k:Nat):Int)) (b:=((l.length:Nat):Int)) rfl rfl) ?_
    refine l_nil ?_
    refine f_then ?_
    refine c_if (((k:Nat):Int)<((l.length:Nat):Int)) rfl (fun hc11=> ?_) (fun hc11=> ?_)
    ·
     refine c_skip ?_
     refine f_then ?_
     refine c_seq ?_
     refine c_block ?_
     refine c_seq ?_
     refine c_quiet (by kernel_rfl) (by kernel_rfl) ?_
     refine q_val (v:= .slice va (l.length) (vc)) rfl rfl rfl (e_move) ?_
     refine q_val (v:=Nx (i)) rfl rfl rfl (e_move) ?_
     obtain⟨x12,hx13⟩:∃x_,(l)[i]? =some x_:=⟨_,List.getElem?_eq_getElem (by omega)⟩
     obtain⟨ha14,cs15,hc16,rfl⟩:=ve _ _ hx13
     refine q_val (v:= .pointer (some ((ba va).add (i*4)))) rfl rfl rfl (e_indexAddr (k:=i) (len:=l.length) (cap:=vc) (a:=va) rfl rfl tf43 (by omega) ha14) ?_
     refine q_val (v:= .agg (aC x12)) rfl rfl rfl (e_load tf10 (cs:=(areaE x12)) rfl (Knows.of_base (Cs.mono _ _) hc16) rfl) ?_
     refine q_val (v:= .slice va (l.length) (vc)) rfl rfl rfl (e_move) ?_
     refine q_val (v:=Nx (k)) rfl rfl rfl (e_move) ?_
     obtain⟨x18,hx19⟩:∃x_,(l)[k]? =some x_:=⟨_,List.getElem?_eq_getElem (by omega)⟩
     obtain⟨ha20,cs21,hc22,rfl⟩:=ve _ _ hx19
     refine q_val (v:= .pointer (some ((ba va).add (k*4)))) rfl rfl rfl (e_indexAddr (k:=k) (len:=l.length) (cap:=vc) (a:=va) rfl rfl tf43 (by omega) ha20) ?_
     refine q_val (v:= .agg (aC x18)) rfl rfl rfl (e_load tf10 (cs:=(areaE x18)) rfl (Knows.of_base (Cs.mono _ _) hc22) rfl) ?_
     refine q_call (v:= .bool (decide (meetA x12 x18))) rfl rfl rfl (cl_value (fst:=[]) (cap:=[]) (vs:=[.agg (aC x12),.agg (aC x18)]) (all:=[.agg (aC x12),.agg (aC x18)]) tf107 rfl rfl rfl) (fun w hw=> ?_) ?_
     ·obtain⟨β1,sb,kn,hw1,back⟩:=St.frame_all hw
      exact(rmeet_ok β1 w hw1 x12 x18).mono (fun e w' ⟨he,hw'⟩=>⟨he,st_mask [true] rfl (back _ _ hw')⟩)
     refine q_nil ?_
     refine f_then ?_
     refine c_if (meetA x12 x18) rfl (fun hc24=> ?_) (fun hc24=> ?_)
     ·
      refine c_region ?_
      refine l_val (v:= .slice q (ou.length) d) rfl rfl rfl (e_move) ?_
      refine l_val (v:=Nx (i)) rfl rfl rfl (e_move) ?_
      refine l_val (v:=Nx (k)) rfl rfl rfl (e_move) ?_
      refine l_val (v:= .agg #[Nx (i),Nx (k)]) rfl rfl rfl (e_build tf33 tf32 (vs:=[(0,Nx (i)),(1,Nx (k))]) (cells:= #[Nx (i),Nx (k)]) rfl rfl) ?_
      refine l_mv rfl rfl rfl (m_slices tf37 tf33 (vs:=[(0,.agg #[Nx (i),Nx (k)])]) (cells:= #[Nx (i),Nx (k)]) rfl rfl rfl rfl) ?_
      rintro _ _ ⟨b25,rfl,rfl⟩
      refine l_mv rfl rfl rfl (m_appendFlN (F:=PairF) 1 tf37 tf38 (p:=q) (m:=ou.length) (xs:=ou) (ys:=[(⟨((i:Nat):Int),((k:Nat):Int)⟩:KP)]) (ao:=(some ⟨b25,0,none⟩)) (k:=1) (c:=1) rfl rfl rfl rfl rfl (k_ptFl (z:=(⟨((i:Nat):Int),((k:Nat):Int)⟩:KP)) 0 rfl rfl) (by first|omega|simp only[List.length_nil,List.length_cons,List.length_append,List.length_set];omega) (by first|omega|simp only[List.length_nil,List.length_cons,List.length_append,List.length_set];omega)) ?_
      rintro _ _ ⟨rp26,rc27,rfl,rfl⟩
      refine l_val (v:= .slice rp26 ((ou++[(⟨((i:Nat):Int),((k:Nat):Int)⟩:KP)]).length) rc27) rfl rfl rfl (e_assign) ?_
      refine l_nil ?_
      refine f_block ?_
      refine f_then ?_
      refine c_region ?_
      refine l_val (v:=Nx (k)) rfl rfl rfl (e_move) ?_
      refine l_val (v:=Nx (k+1)) rfl rfl rfl (e_add (a:=((k:Nat):Int)) (b:=(1:Int)) rfl rfl (i64n (by omega) (by omega))) ?_
      refine l_val (v:=Nx (k+1)) rfl rfl rfl (e_assign) ?_
      refine l_nil ?_
      refine f_mask (L':=[rowF PairF 55 rp26 rc27 (ou++[(⟨((i:Nat):Int),((k:Nat):Int)⟩:KP)])]) [false,true] rfl ?_
      exact f_cut ⟨(k+1,(ou++[(⟨((i:Nat):Int),((k:Nat):Int)⟩:KP)]),rp26,rc27),⟨⟨rfl,rfl,rfl,rfl⟩,rfl,⟨by omega,by omega,by rw[rp_yes hik hx19 (rp_touch hok hx hx13 hx19 hc24),List.cons_append]at hin;rw[List.append_assoc];exact hin⟩⟩,(show l.length-(k+1)<l.length-k from by omega)⟩
     ·
      refine c_skip ?_
      refine f_block ?_
      refine f_then ?_
      refine c_region ?_
      refine l_val (v:=Nx (k)) rfl rfl rfl (e_move) ?_
      refine l_val (v:=Nx (k+1)) rfl rfl rfl (e_add (a:=((k:Nat):Int)) (b:=(1:Int)) rfl rfl (i64n (by omega) (by omega))) ?_
      refine l_val (v:=Nx (k+1)) rfl rfl rfl (e_assign) ?_
      refine l_nil ?_
      exact f_cut ⟨(k+1,ou,q,d),⟨⟨rfl,rfl,rfl,rfl⟩,rfl,⟨by omega,by omega,by rw[rp_no hx19 (fun q=>hc24 (rp_meet hok hx hx13 hx19 q))]at hin;exact hin⟩⟩,(show l.length-(k+1)<l.length-k from by omega)⟩
    ·
     refine c_exit ?_
     refine f_then_exit ?_
     refine f_then_exit ?_
     refine f_exit ?_
     refine f_block ?_
     refine f_then ?_
     refine c_region ?_
     refine l_val (v:=Nx (i)) rfl rfl rfl (e_move) ?_
     refine l_val (v:=Nx (i+1)) rfl rfl rfl (e_add (a:=((i:Nat):Int)) (b:=(1:Int)) rfl rfl (i64n (by omega) (by omega))) ?_
     refine l_val (v:=Nx (i+1)) rfl rfl rfl (e_assign) ?_
     refine l_nil ?_
     exact f_cut ⟨(i+1,ou,q,d),⟨⟨rfl,rfl,rfl⟩,rfl,⟨by omega,by rw[rp_end (by omega),List.nil_append]at hin;exact hin⟩⟩,(show l.length-(i+1)<l.length-i from by omega)⟩
   ·
    refine c_exit ?_
    refine f_then_exit ?_
    refine f_then_exit ?_
    refine f_exit ?_
    refine f_then ?_
    refine c_seq ?_
    refine c_region ?_
    refine l_val (v:= .slice p (out.length) c) rfl rfl rfl (e_move) ?_
    refine l_val (v:= .slice p (out.length) c) rfl rfl rfl (e_assign) ?_
    refine l_val (v:= .int .i64 (0)) rfl rfl rfl (e_assign) ?_
    refine l_nil ?_
    refine f_then ?_
    refine c_ret ?_
    refine ret2 (v:= .slice p (out.length) c) (v':= .int .i64 (0)) Tryz.results18 rfl rfl ?_
    intro w hw
    have hfin:out=pairsX l:=by rw[pairsX_ok ⟨hok,hlen⟩,←hout,List.drop_eq_nil_of_le (by rw[things_len];omega)];exact(List.append_nil _).symm
    rw[errP_ok ⟨hok,hlen⟩,←hfin]
    exact⟨p,c,rfl,st_mask [true] rfl hw⟩
end Go.Proofs
