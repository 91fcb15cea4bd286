/-
 Read,walked. Printed by a program of my own.
-/
import Derived.Test.YtmhlglginimmnaaGreatDoorJn4
set_option linter.all false
namespace Go.Proofs
open Go Go.Sl Go.Jn
theorem sizes_snoc(l:List Bs)(b:Bs):sizes (l++[b])=sizes l+(24+b.length):=by
 induction l with
 |nil=>simp[sizes]
 |cons a l ih=>simp only[List.cons_append,sizes,ih];omega
theorem sizes_ge(l:List Bs):24*l.length≤sizes l:=by
 induction l with
 |nil=>simp[sizes]
 |cons a l ih=>simp only[List.length_cons,sizes];omega
theorem read_step{e:Int}{n0 s0 f:Nat}{ar:Bs}{rs R:List Bs}(_:(ar.drop (s0+sizes rs)).length<f+1)(hle:s0+sizes rs≤ar.length)(hrs:rs++parse e (f+1) (n0+rs.length) (ar.drop (s0+sizes rs))=R)
 (hrb:recB e (ar.drop (s0+sizes rs))=true)(hn:recN (ar.drop (s0+sizes rs))=n0+rs.length)(h1:n0+rs.length≠4611686018427387904)(hl:24+(recP (ar.drop (s0+sizes rs))).length≤(ar.drop (s0+sizes rs)).length):
  (ar.drop (s0+sizes (rs++[recP (ar.drop (s0+sizes rs))]))).length<f∧s0+sizes (rs++[recP (ar.drop (s0+sizes rs))])≤ar.length∧
  (rs++[recP (ar.drop (s0+sizes rs))])++parse e f (n0+(rs++[recP (ar.drop (s0+sizes rs))]).length) (ar.drop (s0+sizes (rs++[recP (ar.drop (s0+sizes rs))])))=R:=by
 rw[sizes_snoc]
 simp only[List.length_drop]at*
 refine⟨by omega,by omega,?_⟩
 rw[←hrs]
 conv=>rhs;rw[parse]
 rw[if_pos ⟨hrb,hn,h1⟩,List.drop_drop]
 simp[Nat.add_assoc]
theorem read_end{e:Int}{n f:Nat}{xs:Bs}{rs R:List Bs}(hrs:rs++parse e (f+1) n xs=R)(h:¬(recB e xs=true∧recN xs=n∧n≠4611686018427387904)):rs=R:=by
 rw[parse,if_neg h]at hrs
 simpa using hrs
theorem read_none{k:KS}{ar:Bs}(h:k.area (epochF k.head)=ar)(he:epochF k.head≠0)(hb:recB ((epochF k.head:Nat):Int) ar=false):readI k=none:=by
 unfold readI
 simp only[sB,rB,h,if_neg he,hb]
 rfl
theorem read_some{k:KS}{ar:Bs}(h:k.area (epochF k.head)=ar)(he:epochF k.head≠0)(hb:recB ((epochF k.head:Nat):Int) ar=true):
  readI k=some ⟨epochF k.head,recN ar+(recsF (epochF k.head) (recN ar) (ar.drop (24+(recP ar).length))).length,recP ar,recsF (epochF k.head) (recN ar) (ar.drop (24+(recP ar).length)),(24+(recP ar).length)+sizes (recsF (epochF k.head) (recN ar) (ar.drop (24+(recP ar).length)))⟩:=by
 unfold readI
 simp only[sB,rB,h,if_neg he,hb]
 rfl
theorem read_zero{k:KS}{ar:Bs}(h:k.area (epochF k.head)=ar)(he:epochF k.head=0):readI k=some ⟨0,(recsF 0 0 (ar.drop 0)).length,[],recsF 0 0 (ar.drop 0),sizes (recsF 0 0 (ar.drop 0))⟩:=by
 unfold readI
 rw[he]at h
 simp only[sB,rB,he,h]
 rfl
instance tf55:ZerC Tryz.prog 116 (.agg #[.int .i64 (0),.int .i64 (0),.slice none 0 0,.slice none 0 0,.int .i64 (0)]):={}
instance tf56:TyC Tryz.prog 60 true 4:={}
instance tf57:CfC Tryz.prog 96:={}
theorem tf58:stB Tryz.prog 116 [(0,1),(1,1),(2,1),(3,1),(4,1)]=true:=by kernel_rfl
instance tf59:TyC Tryz.prog 116 true 5:={}
instance tf60:CfC Tryz.prog 97:={}
instance tf61:CfC Tryz.prog 98:={}
instance tf62:CfC Tryz.prog 64:={}
instance tf63:FldC Tryz.prog 116 2 2 1 false:={}
instance tf64:FldC Tryz.prog 116 3 3 1 false:={}
instance tf65:TyC Tryz.prog 84 false 1:={}
theorem tf66:slB Tryz.prog 84 22 1=true:=by kernel_rfl
instance tf67:ZerC Tryz.prog 22 (.slice none 0 0):={}
theorem tf68:elB Tryz.prog 22 1 24=true:=by kernel_rfl
set_option maxHeartbeats 4000000 in
theorem read_ok(β:Base)(w:World)(hw:St β [] w)(k:KS)(vh va vb:Value)(hH:Sl U8R β.heap vh k.head)(hA:Sl U8R β.heap va k.a)(hB:Sl U8R β.heap vb k.b):Calls Tryz.prog 58 #[.agg #[vh,va,vb,Ix k.power]] w fun r w'=>(r= .returned (.tuple #[.agg #[.int .i64 0,.int .i64 0,.slice none 0 0,.slice none 0 0,.int .i64 0],.int .i64 2])∧¬k.okP∧St β [] w')∨(r= .returned (.tuple #[.agg #[.int .i64 0,.int .i64 0,.slice none 0 0,.slice none 0 0,.int .i64 0],.int .i64 311])∧k.okP∧readI k=none∧St β [] w')∨
  (∃i,k.okP∧readI k=some i∧∃ps pr cs cr,r= .returned (.tuple #[.agg #[Nx i.epoch,Nx i.next,sB ps i.state cs,sB pr i.recs cr,Nx i.size],.int .i64 0])∧St β [rB ps i.state cs,recsR 22 pr cr i.recs] w'):=by
 obtain⟨vha,vhc,rfl,vhl,vhm,vhe⟩:=hH.get
 obtain⟨vaa,vac,rfl,val,vam,vae⟩:=hA.get
 obtain⟨vba,vbc,rfl,vbl,vbm,vbe⟩:=hB.get
 refine enter (n:=92) Tryz.func58 rfl Tryz.ntmps58 rfl ?_ hw
 refine csr (bxa fun b1=> ?_)
 refine alE fun b2=>lE oai (lnf (cs2 (c_region (lE (olg 1) ?_))))
 refine lcR clA (fun w β1 sb kn hw1=>valid_ok β1 w hw1 k _ _ _ (Sl.mono _ _ _ _ _ sb (⟨⟨_,_,rfl,vhl,vhm,vhe⟩⟩:Sl U8R _ _ k.head)) (Sl.mono _ _ _ _ _ sb (⟨⟨_,_,rfl,val,vam,vae⟩⟩:Sl U8R _ _ k.a)) (Sl.mono _ _ _ _ _ sb (⟨⟨_,_,rfl,vbl,vbm,vbe⟩⟩:Sl U8R _ _ k.b))) ?_
 refine lE ond (lnf (c_if _ rfl (fun hc3=> ?_) (fun hc3=> ?_)))
 ·refine csr ?_
  refine lv (v:= .agg #[.int .i64 (0),.int .i64 (0),.slice none 0 0,.slice none 0 0,.int .i64 (0)]) (e_build tf55.ok tf58 (vs:=[]) (cells:= #[.int .i64 (0),.int .i64 (0),.slice none 0 0,.slice none 0 0,.int .i64 (0)]) rfl rfl) ?_
  refine lu (mS 0 (#[.int .i64 (0),.int .i64 (0),.slice none 0 0,.slice none 0 0,.int .i64 (0)])) (lE oai (lnf (c_ret (f_then_ret ?_))))
  refine retG (m:=[.agg #[.int .i64 (0),.int .i64 (0),.slice none 0 0,.slice none 0 0,.int .i64 (0)],.int .i64 (2)]) Tryz.results58 ⟨rd_cell tf59.ok rfl (k_pt 0 rfl rfl) rfl,rd_tmp (v:= .int .i64 (2)) rfl,trivial⟩ rfl ?_
  intro w hw
  exact .inl ⟨rfl,by simpa using hc3,st_mask [false,false] rfl hw⟩
 have hok:k.okP:=Decidable.not_not.1 hc3
 refine csk (c_seq ?_)
 have hhd:k.head.length≤32:=by unfold KS.okP at hok;omega
 refine c_region (lE ofp (lE (ols 1) ?_))
 refine lcR clA (fun w β1 sb kn hw1=>epoch_ok β1 w hw1 k.head _ (by omega) (Sl.mono _ _ _ _ _ sb (⟨⟨_,_,rfl,vhl,vhm,vhe⟩⟩:Sl U8R _ _ k.head))) ?_
 refine lv (v:= .agg #[Nx (epochF k.head),.int .i64 (0),.slice none 0 0,.slice none 0 0,.int .i64 (0)]) (e_build tf55.ok tf58 (vs:=[(0,Nx (epochF k.head))]) (cells:= #[Nx (epochF k.head),.int .i64 (0),.slice none 0 0,.slice none 0 0,.int .i64 (0)]) rfl rfl) ?_
 refine alE fun b4=>lu (mS 0 (#[Nx (epochF k.head),.int .i64 (0),.slice none 0 0,.slice none 0 0,.int .i64 (0)])) (lnf ?_)
 refine c_seq_cut (fun(f:Fm) (L:List Res)=>∃ar a c,k.area (epochF k.head)=ar∧ar.length≤262144∧Sl U8R β.heap (sB a ar c) ar∧(f 2=pp b2 0∧f 4=pp b4 0∧f 5=sB a ar c)∧L=[pt b4 (.cells #[Nx (epochF k.head),.int .i64 (0),.slice none 0 0,.slice none 0 0,.int .i64 (0)] 116),pt b2 (.cells #[.int .i64 (0),.int .i64 (0),.slice none 0 0,.slice none 0 0,.int .i64 (0)] 116),pt b1 (.cells #[sB vha k.head (vhc),sB vaa k.a (vac),sB vba k.b (vbc),Ix (k.power)] 60)]) ?_ ?_
 ·rcases Nat.mod_two_eq_zero_or_one (epochF k.head)with hpar|hpar
  ·refine c_quiet (by kernel_rfl) (by kernel_rfl) ?_
   refine q_call (v:= .agg #[pp b1 1,pp b1 2]) rfl rfl rfl (cl0 (vs:=[pp b1 0]) tf46.ok rfl rfl) (fun w hw=> ?_) ?_
   ·obtain⟨β1,sb,kn,hw1,back⟩:=St.frame_all hw
    exact(areas_ok β1 w hw1 b1).mono (fun e w' ⟨he,hw'⟩=>⟨he,st_mask [true,true,true] rfl (back _ _ hw')⟩)
   refine qE ofp (qE (oli 0) ?_)
   refine q_val (v:= .int .i64 (0)) rfl rfl rfl (ev_eq (by rw[hpar];rfl) (e_rem (a:=((epochF k.head:Nat):Int)) (b:=(2:Int)) rfl rfl (by decide) (nat_tmod _ 2))) ?_
   refine q_val (v:=pp b1 1) rfl rfl rfl (e_index_a (cs:= #[pp b1 1,pp b1 2]) (k:=0) rfl rfl tf28.ok rfl (by decide) tf49.ok) (qE onp ?_)
   refine qE (ols 2) (qE oas (q_nil ?_))
   exact f_cut ⟨_,_,_,area_even (k:=k) hpar,by unfold KS.okP at hok;omega,(⟨⟨_,_,rfl,val,vam,vae⟩⟩:Sl U8R _ _ k.a),⟨rfl,rfl,rfl⟩,rfl⟩
  refine c_quiet (by kernel_rfl) (by kernel_rfl) ?_
  refine q_call (v:= .agg #[pp b1 1,pp b1 2]) rfl rfl rfl (cl0 (vs:=[pp b1 0]) tf46.ok rfl rfl) (fun w hw=> ?_) ?_
  ·obtain⟨β1,sb,kn,hw1,back⟩:=St.frame_all hw
   exact(areas_ok β1 w hw1 b1).mono (fun e w' ⟨he,hw'⟩=>⟨he,st_mask [true,true,true] rfl (back _ _ hw')⟩)
  refine qE ofp (qE (oli 0) ?_)
  refine q_val (v:= .int .i64 (1)) rfl rfl rfl (ev_eq (by rw[hpar];rfl) (e_rem (a:=((epochF k.head:Nat):Int)) (b:=(2:Int)) rfl rfl (by decide) (nat_tmod _ 2))) ?_
  refine q_val (v:=pp b1 2) rfl rfl rfl (e_index_a (cs:= #[pp b1 1,pp b1 2]) (k:=1) rfl rfl tf28.ok rfl (by decide) tf49.ok) (qE onp ?_)
  refine qE (ols 2) (qE oas (q_nil ?_))
  exact f_cut ⟨_,_,_,area_odd (k:=k) hpar,by unfold KS.okP at hok;omega,(⟨⟨_,_,rfl,vbl,vbm,vbe⟩⟩:Sl U8R _ _ k.b),⟨rfl,rfl,rfl⟩,rfl⟩
 rintro f0 L0 ⟨ar,aa,ac,har,hl4,hasl,⟨hs2,hs4,hs5⟩,hL⟩
 subst L0
 refine rbs 2 hs2 (rbs 4 hs4 (rbs 5 hs5 ?_))
 obtain⟨_,hal,ham,hae⟩:=hasl.parts
 refine cs2 (c_region (lE ofp (lE (oli 0) (lE ogt (lnf (c_if _ rfl (fun hc5=> ?_) (fun hc5=> ?_)))))))
 ·refine csr (lE ofp (lE (oli 0) (lE oms ?_)))
  refine lcR clA (fun w β1 sb kn hw1=>record_ok β1 w hw1 ((epochF k.head:Nat):Int) ar aa ac (by omega) (by omega) (Elems.mono _ _ _ _ _ sb hae)) ?_
  refine lE omt (lE oxi (lE oxs (lE oxb (lE oai (lE oas (lE oab (lnf (cs2 (c_region (lE omb (lE ont (lnf ?_))))))))))))
  refine c_ifb (!(recB ((epochF k.head:Nat):Int) ar)) rfl (fun hc6=> ?_) (fun hc6=> ?_)
  ·refine csr ?_
   refine lv (v:= .agg #[.int .i64 (0),.int .i64 (0),.slice none 0 0,.slice none 0 0,.int .i64 (0)]) (e_build tf55.ok tf58 (vs:=[]) (cells:= #[.int .i64 (0),.int .i64 (0),.slice none 0 0,.slice none 0 0,.int .i64 (0)]) rfl rfl) ?_
   refine lu (mS 1 (#[.int .i64 (0),.int .i64 (0),.slice none 0 0,.slice none 0 0,.int .i64 (0)])) (lE oai (lnf (c_ret (f_then_ret (f_then_ret ?_)))))
   refine retG (m:=[.agg #[.int .i64 (0),.int .i64 (0),.slice none 0 0,.slice none 0 0,.int .i64 (0)],.int .i64 (311)]) Tryz.results58 ⟨rd_cell tf59.ok rfl (k_pt 1 rfl rfl) rfl,rd_tmp (v:= .int .i64 (311)) rfl,trivial⟩ rfl ?_
   intro w hw
   exact .inr (.inl ⟨rfl,hok,read_none har (by omega) (by simpa using hc6),st_mask [false,false,false] rfl hw⟩)
  refine csk ?_
  have hrb0:recB ((epochF k.head:Nat):Int) ar=true:=by simpa using hc6
  have hrl0:=recP_len hrb0
  have hrN0:=recN_small (xs:=ar)
  have hrP0:=recP_small (xs:=ar)
  refine c_region (lE omi (lE oms ?_))
  refine lcf (cl0 (vs:=[sB (recA aa ac ar) (recP ar) ((recC ac ar))]) tf62.ok rfl rfl) rfl fun w β1 sb kn hw1 back=>(clone_ok β1 w hw1 (recP ar) _ (by omega) (Sl.mono _ _ _ _ _ sb (rec_sl (by omega) (by omega) hae))).mono ?_
  rintro e w' ⟨p7,c8,rfl,hw'⟩
  refine⟨_,rfl,_,back _ _ hw',?_⟩
  clear hw1 hw' back kn sb
  refine lE oms (lE oln (lv (v:=Nx (24+((recP ar).length))) (e_add rfl rfl (i64n (by omega) (by omega))) (lE ofp ?_)))
  refine lu (mS 1 (#[Nx (epochF k.head),Nx (recN ar),.slice none 0 0,.slice none 0 0,.int .i64 (0)])) (lE ofp ?_)
  refine lu (mS 1 (#[Nx (epochF k.head),Nx (recN ar),sB p7 ((recP ar)) c8,.slice none 0 0,.int .i64 (0)])) (lE ofp ?_)
  refine lu (mS 1 (#[Nx (epochF k.head),Nx (recN ar),sB p7 ((recP ar)) c8,.slice none 0 0,Nx (24+((recP ar).length))])) (lnf (c_block ?_))
  refine c_emp (r:=recsR 22 none 0 []) (recs_nil _ _) ?_
  refine c_loop (fun(x_:Nat×List Bs×Option Addr×Nat) f L=>match x_ with|(fu,rs,pr,cr)=>(f 2=pp b2 0∧f 4=pp b4 0∧f 5=sB aa ar (ac))∧L=[recsR 22 pr cr rs,rB p7 ((recP ar)) c8,pt b4 (.cells #[Nx (epochF k.head),Nx ((recN ar)+rs.length),sB p7 ((recP ar)) c8,sB pr rs cr,Nx ((24+(recP ar).length)+sizes rs)] 116),pt b2 (.cells #[.int .i64 (0),.int .i64 (0),.slice none 0 0,.slice none 0 0,.int .i64 (0)] 116),pt b1 (.cells #[sB vha k.head (vhc),sB vaa k.a (vac),sB vba k.b (vbc),Ix (k.power)] 60)]∧(((ar.drop ((24+(recP ar).length)+sizes rs)).length<fu)∧(24+(recP ar).length)+sizes rs≤ar.length∧rs++parse ((epochF k.head:Nat):Int) fu ((recN ar)+rs.length) (ar.drop ((24+(recP ar).length)+sizes rs))=(recsF (epochF k.head) (recN ar) (ar.drop (24+(recP ar).length))))) (fun(fu,rs,pr,cr)=>fu) (((ar.drop (24+(recP ar).length)).length+1),[],none,0) ?_ ?_
  ·exact⟨⟨rfl,rfl,rfl⟩,(by show [recsR 22 none 0 [],rB p7 ((recP ar)) c8,pt b4 (.cells #[Nx (epochF k.head),Nx (recN ar),sB p7 ((recP ar)) c8,.slice none 0 0,Nx (24+((recP ar).length))] 116),pt b2 (.cells #[.int .i64 (0),.int .i64 (0),.slice none 0 0,.slice none 0 0,.int .i64 (0)] 116),pt b1 (.cells #[sB vha k.head (vhc),sB vaa k.a (vac),sB vba k.b (vbc),Ix (k.power)] 60)]=_;simp only[sB,rB,sizes,List.length_nil,Nat.add_zero,Nat.zero_add];try rfl),⟨by simp[sizes],by simp only[sB,rB,sizes];omega,by simp[sizes,recsF]⟩⟩
  rintro⟨fu,rs,pr,cr⟩ f0 L0 ⟨⟨hs2,hs4,hs5⟩,hL,⟨hfu,hle,hrs⟩⟩
  subst L0
  refine rbs 2 hs2 (rbs 4 hs4 (rbs 5 hs5 ?_))
  obtain⟨f,rfl⟩:∃f,fu=f+1:=⟨fu-1,by omega⟩
  have hsg:=sizes_ge rs
  refine c_block (c_seq (c_quiet (by kernel_rfl) (by kernel_rfl) (qE ofp (qE (oli 2) (qE oms (qE ofp (qE (oli 2) ?_)))))))
  obtain⟨zs9,hz10⟩:∃zs,zs=(ar.drop ((24+(recP ar).length)+sizes rs)):=⟨_,rfl⟩
  have zl11:zs9.length=(ar).length-((24+(recP ar).length)+sizes rs):=by rw[hz10];simp;try omega
  have ze12:=(Elems.drop (cap:=ac) ((24+(recP ar).length)+sizes rs) (by first|omega|(simp;omega)) hae)
  rw[←hz10]at ze12
  refine q_val (v:= .slice (adv aa ac ((24+(recP ar).length)+sizes rs) 1) (zs9.length) ((ac-((24+(recP ar).length)+sizes rs)))) rfl rfl rfl (ev_eq (by rw[show zs9.length=ar.length-((24+(recP ar).length)+sizes rs) by omega]) (e_slice_lo (a:=aa) (len:=ar.length) (cap:=ac) (l:=(24+(recP ar).length)+sizes rs) tf12 rfl rfl (by omega))) ?_
  refine q_call (v:= .tuple #[Nx (recN zs9),sB (recA (adv aa ac ((24+(recP ar).length)+sizes rs) 1) (ac-((24+(recP ar).length)+sizes rs)) zs9) (recP zs9) ((recC (ac-((24+(recP ar).length)+sizes rs)) zs9)),.bool (recB ((epochF k.head:Nat):Int) zs9)]) rfl rfl rfl (cl0 (vs:=[Nx (epochF k.head),sB (adv aa ac ((24+(recP ar).length)+sizes rs) 1) zs9 ((ac-((24+(recP ar).length)+sizes rs)))]) tf61.ok rfl rfl) (fun w hw=> ?_) ?_
  ·obtain⟨β1,sb,kn,hw1,back⟩:=St.frame_all hw
   exact(record_ok β1 w hw1 ((epochF k.head:Nat):Int) zs9 (adv aa ac ((24+(recP ar).length)+sizes rs) 1) (ac-((24+(recP ar).length)+sizes rs)) (by omega) (by omega) (Elems.mono _ _ _ _ _ sb ze12)).mono (fun e w' ⟨he,hw'⟩=>⟨he,st_mask [true,true,true,true,true] rfl (back _ _ hw')⟩)
  refine qE omt (qE oxi (qE oxs (qE oxb (qE oai (qE oas (qE oab (q_nil (fts (c_seq ?_)))))))))
  have hrN:=recN_small (xs:=zs9)
  have hrP:=recP_small (xs:=zs9)
  refine c_region (lE omb (lE ont (lE omb (l_splitb (s:=63) (b:= !(recB ((epochF k.head:Nat):Int) zs9)) rfl (fun hg13=> ?_) (fun hg13=> ?_)))))
  ·refine skE (skE (skE (skE (lE oktb (lE omb (skE (skE (lE oktb (lnf (c_yes rfl (csr (lE (olg 2) ?_))))))))))))
   refine lu (mS 3 (#[Nx (epochF k.head),Nx ((recN ar)+rs.length),sB p7 ((recP ar)) c8,sB pr rs cr,Nx ((24+(recP ar).length)+sizes rs)])) ?_
   refine lE oai (lnf (c_ret (f_then_ret (f_block_ret (f_then_ret (f_block_ret ?_))))))
   refine retG (m:=[.agg #[Nx (epochF k.head),Nx ((recN ar)+rs.length),sB p7 ((recP ar)) c8,sB pr rs cr,Nx ((24+(recP ar).length)+sizes rs)],.int .i64 (0)]) Tryz.results58 ⟨rd_cell tf59.ok rfl (k_pt 3 rfl rfl) rfl,rd_tmp (v:= .int .i64 (0)) rfl,trivial⟩ rfl ?_
   intro w hw
   have hend:=read_end hrs (by rw[←hz10];rintro⟨q1,q2,q3⟩;simp[q1]at hg13)
   have hw2:=st_mask [true,true,false,false,false] rfl (hw.perm (L':=[rB p7 ((recP ar)) c8,recsR 22 pr cr rs,pt b4 (.cells #[Nx (epochF k.head),Nx ((recN ar)+rs.length),sB p7 ((recP ar)) c8,sB pr rs cr,Nx ((24+(recP ar).length)+sizes rs)] 116),pt b2 (.cells #[Nx (epochF k.head),Nx ((recN ar)+rs.length),sB p7 ((recP ar)) c8,sB pr rs cr,Nx ((24+(recP ar).length)+sizes rs)] 116),pt b1 (.cells #[sB vha k.head (vhc),sB vaa k.a (vac),sB vba k.b (vbc),Ix (k.power)] 60)]) (by exact(perm_ix [1,0,2,3,4] 5 rfl (by kernel_rfl) (by kernel_rfl))))
   rw[hend]at hw2⊢
   exact .inr (.inr ⟨_,hok,read_some har (by omega) hrb0,_,_,_,_,rfl,hw2⟩)
  refine gE omi (gE ofp (gE (oli 2) (gE onq (lE okfb (lE omb (l_split (s:=69) rfl (fun hg14=> ?_) (fun hg14=> ?_)))))))
  ·refine skE (skE (lE oktb (lnf (c_yes rfl (csr (lE (olg 2) ?_))))))
   refine lu (mS 3 (#[Nx (epochF k.head),Nx ((recN ar)+rs.length),sB p7 ((recP ar)) c8,sB pr rs cr,Nx ((24+(recP ar).length)+sizes rs)])) ?_
   refine lE oai (lnf (c_ret (f_then_ret (f_block_ret (f_then_ret (f_block_ret ?_))))))
   refine retG (m:=[.agg #[Nx (epochF k.head),Nx ((recN ar)+rs.length),sB p7 ((recP ar)) c8,sB pr rs cr,Nx ((24+(recP ar).length)+sizes rs)],.int .i64 (0)]) Tryz.results58 ⟨rd_cell tf59.ok rfl (k_pt 3 rfl rfl) rfl,rd_tmp (v:= .int .i64 (0)) rfl,trivial⟩ rfl ?_
   intro w hw
   have hend:=read_end hrs (by rw[←hz10];rintro⟨q1,q2,q3⟩;exact hg14 (by rw[q2]))
   have hw2:=st_mask [true,true,false,false,false] rfl (hw.perm (L':=[rB p7 ((recP ar)) c8,recsR 22 pr cr rs,pt b4 (.cells #[Nx (epochF k.head),Nx ((recN ar)+rs.length),sB p7 ((recP ar)) c8,sB pr rs cr,Nx ((24+(recP ar).length)+sizes rs)] 116),pt b2 (.cells #[Nx (epochF k.head),Nx ((recN ar)+rs.length),sB p7 ((recP ar)) c8,sB pr rs cr,Nx ((24+(recP ar).length)+sizes rs)] 116),pt b1 (.cells #[sB vha k.head (vhc),sB vaa k.a (vac),sB vba k.b (vbc),Ix (k.power)] 60)]) (by exact(perm_ix [1,0,2,3,4] 5 rfl (by kernel_rfl) (by kernel_rfl))))
   rw[hend]at hw2⊢
   exact .inr (.inr ⟨_,hok,read_some har (by omega) hrb0,_,_,_,_,rfl,hw2⟩)
  refine gE omi (gE oeq_ (lE okfb (lnf (c_if _ rfl (fun hc15=> ?_) (fun hc15=> ?_)))))
  ·refine csr (lE (olg 2) ?_)
   refine lu (mS 3 (#[Nx (epochF k.head),Nx ((recN ar)+rs.length),sB p7 ((recP ar)) c8,sB pr rs cr,Nx ((24+(recP ar).length)+sizes rs)])) ?_
   refine lE oai (lnf (c_ret (f_then_ret (f_block_ret (f_then_ret (f_block_ret ?_))))))
   refine retG (m:=[.agg #[Nx (epochF k.head),Nx ((recN ar)+rs.length),sB p7 ((recP ar)) c8,sB pr rs cr,Nx ((24+(recP ar).length)+sizes rs)],.int .i64 (0)]) Tryz.results58 ⟨rd_cell tf59.ok rfl (k_pt 3 rfl rfl) rfl,rd_tmp (v:= .int .i64 (0)) rfl,trivial⟩ rfl ?_
   intro w hw
   have hend:=read_end hrs (by rw[←hz10];rintro⟨q1,q2,q3⟩;omega)
   have hw2:=st_mask [true,true,false,false,false] rfl (hw.perm (L':=[rB p7 ((recP ar)) c8,recsR 22 pr cr rs,pt b4 (.cells #[Nx (epochF k.head),Nx ((recN ar)+rs.length),sB p7 ((recP ar)) c8,sB pr rs cr,Nx ((24+(recP ar).length)+sizes rs)] 116),pt b2 (.cells #[Nx (epochF k.head),Nx ((recN ar)+rs.length),sB p7 ((recP ar)) c8,sB pr rs cr,Nx ((24+(recP ar).length)+sizes rs)] 116),pt b1 (.cells #[sB vha k.head (vhc),sB vaa k.a (vac),sB vba k.b (vbc),Ix (k.power)] 60)]) (by exact(perm_ix [1,0,2,3,4] 5 rfl (by kernel_rfl) (by kernel_rfl))))
   rw[hend]at hw2⊢
   exact .inr (.inr ⟨_,hok,read_some har (by omega) hrb0,_,_,_,_,rfl,hw2⟩)
  refine csk (c_seq ?_)
  have hrb:recB ((epochF k.head:Nat):Int) zs9=true:=by simpa using hg13
  have hrl:=recP_len hrb
  refine cnz [sv 74 (pp b4 3) [] [] [0],sv 75 (sB pr rs cr) [0] [0] [],sv 76 (sB (recA (adv aa ac ((24+(recP ar).length)+sizes rs) 1) (ac-((24+(recP ar).length)+sizes rs)) zs9) (recP zs9) ((recC (ac-((24+(recP ar).length)+sizes rs)) zs9))) [] [] [1],⟨[2],[2],[],[77],fun f=>f 77=sB (sla (f 77)) ((recP zs9)) (slc (f 77))⟩,⟨[2,3],[3],[],[78],fun f=>f 78= .slice (some ⟨(blk (f 78)),0,none⟩) 1 1⟩,⟨[0,1,2,3,4],[1,4],[],[79],fun f=>f 79=sB (sla (f 79)) ((rs++[(recP zs9)])) (slc (f 79))⟩,sv 80 (pp b4 3) (List.range 6) [] [0],⟨(List.range 7),[6,5],[],[],fun _=>True⟩] [(some 5,[5]),u0,(some 7,[1,7])] [⟨(some 3),(some 5),[5],[77],fun f=>rB (sla (f 77)) ((recP zs9)) (slc (f 77))⟩,⟨(some 4),none,[5],[77,78],fun f=>pt (blk (f 78)) (.cells #[sB (sla (f 77)) ((recP zs9)) (slc (f 77))] 22)⟩,⟨(some 5),none,[],[79],fun f=>recsR 22 (sla (f 79)) (slc (f 79)) (rs++[(recP zs9)])⟩,⟨(some 7),none,[],[79],fun f=>pt b4 (.cells #[Nx (epochF k.head),Nx ((recN ar)+rs.length),sB p7 ((recP ar)) c8,sB (sla (f 79)) ((rs++[(recP zs9)])) (slc (f 79)),Nx ((24+(recP ar).length)+sizes rs)] 116)⟩] [(4,pp b4 0),(10,sB (recA (adv aa ac ((24+(recP ar).length)+sizes rs) 1) (ac-((24+(recP ar).length)+sizes rs)) zs9) (recP zs9) ((recC (ac-((24+(recP ar).length)+sizes rs)) zs9))),(2,pp b2 0),(5,sB aa ar (ac))] [2,0,3,1] ⟨rfl,rfl,rfl,rfl,trivial⟩ ⟨?_,?_,?_,?_,?_,?_,?_,?_,trivial⟩ ?_
  ·rintro f M-⟨i0,-⟩
   exact obE ofp
  ·rintro f M ⟨k0,-⟩-
   exact obE (ols 0)
  ·rintro f M-⟨i0,-⟩
   exact obE oms
  ·rintro f M ⟨k0,-⟩-
   refine obS (up_cons (d:=76) rfl k0) ?_
   refine lcf (cl0 (vs:=[sB (recA (adv aa ac ((24+(recP ar).length)+sizes rs) 1) (ac-((24+(recP ar).length)+sizes rs)) zs9) (recP zs9) ((recC (ac-((24+(recP ar).length)+sizes rs)) zs9))]) tf62.ok rfl rfl) rfl fun w β1 sb kn hw1 back=>(clone_ok β1 w hw1 (recP zs9) _ (by omega) (Sl.mono _ _ _ _ _ sb (rec_sl (by omega) (by omega) ze12))).mono ?_
   rintro e w' ⟨p18,c19,rfl,hw'⟩
   refine⟨_,rfl,_,back _ _ hw',?_⟩
   clear hw1 hw' back kn sb
   refine l_nil ?_
   exact f_owes_d (up_cons (d:=76) rfl k0) rfl (perm_front 0 rfl)
  ·rintro f M ⟨k0,-⟩-
   have hs77:f 77=sB (sla (f 77)) ((recP zs9)) (slc (f 77)):=k0
   refine obS (up_cons rfl hs77) ?_
   refine l_mv rfl rfl rfl (m_slices tf66 tf67.ok (cells:= #[sB (sla (f 77)) ((recP zs9)) (slc (f 77))]) rfl rfl rfl rfl) ?_
   rintro _ _ ⟨b21,rfl,rfl⟩
   refine l_nil ?_
   exact f_owes_d (up_cons rfl hs77) rfl (perm_front 0 rfl)
  ·rintro f M ⟨k0,k1,-⟩-
   have hs78:f 78= .slice (some ⟨(blk (f 78)),0,none⟩) 1 1:=k1
   refine obS (up_cons (up_cons (d:=75) rfl k0) hs78) ?_
   refine l_perm (L':=(recsR 22 pr cr rs::rB (sla (f 77)) ((recP zs9)) (slc (f 77))::pt (blk (f 78)) (.cells #[sB (sla (f 77)) ((recP zs9)) (slc (f 77))] 22)::M)) (List.Perm.refl _) ?_
   refine l_mv rfl rfl rfl (m_appendRec (xs:=rs) (bs:=(recP zs9)) (b:=(blk (f 78))) rfl tf66 tf68 rfl rfl (by omega) (by omega)) ?_
   rintro _ _ ⟨rp24,rc25,rfl,rfl⟩
   refine l_nil ?_
   exact f_owes_d (up_cons (up_cons (d:=75) rfl k0) hs78) rfl ((perm_front 0 rfl).trans (perm_front 1 rfl))
  ·rintro f M-⟨i0,-⟩
   exact obE ofp
  ·rintro f M ⟨k0,k1,-⟩-
   have hs79:f 79=sB (sla (f 79)) ((rs++[(recP zs9)])) (slc (f 79)):=k1
   refine obS (up_cons (up_cons (d:=80) rfl k0) hs79) ?_
   refine lu (mS 0 (#[Nx (epochF k.head),Nx ((recN ar)+rs.length),sB p7 ((recP ar)) c8,sB (sla (f 79)) ((rs++[(recP zs9)])) (slc (f 79)),Nx ((24+(recP ar).length)+sizes rs)])) ?_
   refine l_nil ?_
   exact f_owes_n (up_cons (up_cons (d:=80) rfl k0) hs79) trivial (perm_front 0 rfl)
  rintro fa26 ⟨-,-,-,-,-,-,-,-,-⟩ ⟨j0,j1,j2,j3,-⟩
  refine fre ?_
  refine f_rebase (d:=2) j0 (f_rebase (d:=4) j1 (f_rebase (d:=5) j2 (f_rebase (d:=10) j3 (ftc (lE ofp (lE (oli 5) ?_))))))
  refine lv (v:=Nx (((recN ar)+rs.length)+1)) (e_add rfl rfl (i64n (by omega) (by omega))) (lE ofp ?_)
  refine lu (mS 5 (#[Nx (epochF k.head),Nx (((recN ar)+rs.length)+1),sB p7 ((recP ar)) c8,sB (sla (fa26 79)) ((rs++[(recP zs9)])) (slc (fa26 79)),Nx ((24+(recP ar).length)+sizes rs)])) ?_
  refine lnr (lE ofp (lE (oli 5) (lE oms (lE oln (lv (v:=Nx (24+((recP zs9).length))) (e_add rfl rfl (i64n (by omega) (by omega))) ?_)))))
  refine lv (v:=Nx (((24+(recP ar).length)+sizes rs)+(24+((recP zs9).length)))) (e_add rfl rfl (i64n (by omega) (by omega))) (lE ofp ?_)
  refine lu (mS 5 (#[Nx (epochF k.head),Nx (((recN ar)+rs.length)+1),sB p7 ((recP ar)) c8,sB (sla (fa26 79)) ((rs++[(recP zs9)])) (slc (fa26 79)),Nx (((24+(recP ar).length)+sizes rs)+(24+((recP zs9).length)))])) ?_
  refine l_nil (f_block ?_)
  have hnx:=read_step hfu hle hrs (by rw[←hz10];exact hrb) (by rw[←hz10];omega) (by omega) (by rw[←hz10];omega)
  rw[←hz10]at hnx
  refine fpn [4,0,5,1,2,3] 6 ?_
  refine f_mask [true,true,true,true,true,false] rfl ?_
  exact f_cut ⟨(f,(rs++[(recP zs9)]),(sla (fa26 79)),(slc (fa26 79))),⟨⟨rfl,rfl,rfl⟩,(by simp only[sB,rB,sizes_snoc,List.length_append,List.length_cons,List.length_nil,Nat.add_assoc];try rfl),hnx⟩,(show f<f+1 from Nat.lt_succ_self f)⟩
 refine csk (c_block (c_emp (r:=recsR 22 none 0 []) (recs_nil _ _) ?_))
 refine c_loop (fun(x_:Nat×List Bs×Option Addr×Nat) f L=>match x_ with|(fu,rs,pr,cr)=>(f 2=pp b2 0∧f 4=pp b4 0∧f 5=sB aa ar (ac))∧L=[recsR 22 pr cr rs,pt b4 (.cells #[Nx (epochF k.head),Nx (0+rs.length),.slice none 0 0,sB pr rs cr,Nx (0+sizes rs)] 116),pt b2 (.cells #[.int .i64 (0),.int .i64 (0),.slice none 0 0,.slice none 0 0,.int .i64 (0)] 116),pt b1 (.cells #[sB vha k.head (vhc),sB vaa k.a (vac),sB vba k.b (vbc),Ix (k.power)] 60)]∧(((ar.drop (0+sizes rs)).length<fu)∧0+sizes rs≤ar.length∧rs++parse ((epochF k.head:Nat):Int) fu (0+rs.length) (ar.drop (0+sizes rs))=(recsF (epochF k.head) 0 (ar.drop 0)))) (fun(fu,rs,pr,cr)=>fu) (((ar.drop 0).length+1),[],none,0) ?_ ?_
 ·exact⟨⟨rfl,rfl,rfl⟩,(by show [recsR 22 none 0 [],pt b4 (.cells #[Nx (epochF k.head),.int .i64 (0),.slice none 0 0,.slice none 0 0,.int .i64 (0)] 116),pt b2 (.cells #[.int .i64 (0),.int .i64 (0),.slice none 0 0,.slice none 0 0,.int .i64 (0)] 116),pt b1 (.cells #[sB vha k.head (vhc),sB vaa k.a (vac),sB vba k.b (vbc),Ix (k.power)] 60)]=_;simp only[sB,rB,sizes,List.length_nil,Nat.add_zero,Nat.zero_add];try rfl),⟨by simp[sizes],by simp only[sB,rB,sizes];omega,by simp[sizes,recsF]⟩⟩
 rintro⟨fu,rs,pr,cr⟩ f0 L0 ⟨⟨hs2,hs4,hs5⟩,hL,⟨hfu,hle,hrs⟩⟩
 subst L0
 refine rbs 2 hs2 (rbs 4 hs4 (rbs 5 hs5 ?_))
 obtain⟨f,rfl⟩:∃f,fu=f+1:=⟨fu-1,by omega⟩
 have hsg:=sizes_ge rs
 refine c_block (c_seq (c_quiet (by kernel_rfl) (by kernel_rfl) (qE ofp (qE (oli 1) (qE oms (qE ofp (qE (oli 1) ?_)))))))
 obtain⟨zs27,hz28⟩:∃zs,zs=(ar.drop (0+sizes rs)):=⟨_,rfl⟩
 have zl29:zs27.length=(ar).length-(0+sizes rs):=by rw[hz28];simp;try omega
 have ze30:=(Elems.drop (cap:=ac) (0+sizes rs) (by first|omega|(simp;omega)) hae)
 rw[←hz28]at ze30
 refine q_val (v:= .slice (adv aa ac (0+sizes rs) 1) (zs27.length) ((ac-(0+sizes rs)))) rfl rfl rfl (ev_eq (by rw[show zs27.length=ar.length-(0+sizes rs) by omega]) (e_slice_lo (a:=aa) (len:=ar.length) (cap:=ac) (l:=0+sizes rs) tf12 rfl rfl (by omega))) ?_
 refine q_call (v:= .tuple #[Nx (recN zs27),sB (recA (adv aa ac (0+sizes rs) 1) (ac-(0+sizes rs)) zs27) (recP zs27) ((recC (ac-(0+sizes rs)) zs27)),.bool (recB ((epochF k.head:Nat):Int) zs27)]) rfl rfl rfl (cl0 (vs:=[Nx (epochF k.head),sB (adv aa ac (0+sizes rs) 1) zs27 ((ac-(0+sizes rs)))]) tf61.ok rfl rfl) (fun w hw=> ?_) ?_
 ·obtain⟨β1,sb,kn,hw1,back⟩:=St.frame_all hw
  exact(record_ok β1 w hw1 ((epochF k.head:Nat):Int) zs27 (adv aa ac (0+sizes rs) 1) (ac-(0+sizes rs)) (by omega) (by omega) (Elems.mono _ _ _ _ _ sb ze30)).mono (fun e w' ⟨he,hw'⟩=>⟨he,st_mask [true,true,true,true] rfl (back _ _ hw')⟩)
 refine qE omt (qE oxi (qE oxs (qE oxb (qE oai (qE oas (qE oab (q_nil (fts (c_seq ?_)))))))))
 have hrN:=recN_small (xs:=zs27)
 have hrP:=recP_small (xs:=zs27)
 refine c_region (lE omb (lE ont (lE omb (l_splitb (s:=63) (b:= !(recB ((epochF k.head:Nat):Int) zs27)) rfl (fun hg31=> ?_) (fun hg31=> ?_)))))
 ·refine skE (skE (skE (skE (lE oktb (lE omb (skE (skE (lE oktb (lnf (c_yes rfl (csr (lE (olg 1) ?_))))))))))))
  refine lu (mS 2 (#[Nx (epochF k.head),Nx (0+rs.length),.slice none 0 0,sB pr rs cr,Nx (0+sizes rs)])) (lE oai (lnf (c_ret (f_then_ret ?_))))
  refine f_block_ret (f_then_ret (f_block_ret ?_))
  refine retG (m:=[.agg #[Nx (epochF k.head),Nx (0+rs.length),.slice none 0 0,sB pr rs cr,Nx (0+sizes rs)],.int .i64 (0)]) Tryz.results58 ⟨rd_cell tf59.ok rfl (k_pt 2 rfl rfl) rfl,rd_tmp (v:= .int .i64 (0)) rfl,trivial⟩ rfl ?_
  intro w hw
  have hend:=read_end hrs (by rw[←hz28];rintro⟨q1,q2,q3⟩;simp[q1]at hg31)
  have hw2:=st_mask [true,false,false,false] rfl hw
  rw[hend]at hw2⊢
  refine .inr (.inr ⟨_,hok,read_zero har (by omega),none,_,0,_,(by rw[show epochF k.head=0 by omega];simp only[Nat.zero_add,Nat.add_zero];rfl),?_⟩)
  have hw3:=hw2.emp (row_nil 5 1 _)
  rw[show epochF k.head=0 by omega]at hw3
  exact hw3
 refine gE omi (gE ofp (gE (oli 1) (gE onq (lE okfb (lE omb (l_split (s:=69) rfl (fun hg32=> ?_) (fun hg32=> ?_)))))))
 ·refine skE (skE (lE oktb (lnf (c_yes rfl (csr (lE (olg 1) ?_))))))
  refine lu (mS 2 (#[Nx (epochF k.head),Nx (0+rs.length),.slice none 0 0,sB pr rs cr,Nx (0+sizes rs)])) (lE oai (lnf (c_ret (f_then_ret ?_))))
  refine f_block_ret (f_then_ret (f_block_ret ?_))
  refine retG (m:=[.agg #[Nx (epochF k.head),Nx (0+rs.length),.slice none 0 0,sB pr rs cr,Nx (0+sizes rs)],.int .i64 (0)]) Tryz.results58 ⟨rd_cell tf59.ok rfl (k_pt 2 rfl rfl) rfl,rd_tmp (v:= .int .i64 (0)) rfl,trivial⟩ rfl ?_
  intro w hw
  have hend:=read_end hrs (by rw[←hz28];rintro⟨q1,q2,q3⟩;exact hg32 (by rw[q2]))
  have hw2:=st_mask [true,false,false,false] rfl hw
  rw[hend]at hw2⊢
  refine .inr (.inr ⟨_,hok,read_zero har (by omega),none,_,0,_,(by rw[show epochF k.head=0 by omega];simp only[Nat.zero_add,Nat.add_zero];rfl),?_⟩)
  have hw3:=hw2.emp (row_nil 5 1 _)
  rw[show epochF k.head=0 by omega]at hw3
  exact hw3
 refine gE omi (gE oeq_ (lE okfb (lnf (c_if _ rfl (fun hc33=> ?_) (fun hc33=> ?_)))))
 ·refine csr (lE (olg 1) (lu (mS 2 (#[Nx (epochF k.head),Nx (0+rs.length),.slice none 0 0,sB pr rs cr,Nx (0+sizes rs)])) (lE oai (lnf (c_ret ?_)))))
  refine f_then_ret (f_block_ret (f_then_ret (f_block_ret ?_)))
  refine retG (m:=[.agg #[Nx (epochF k.head),Nx (0+rs.length),.slice none 0 0,sB pr rs cr,Nx (0+sizes rs)],.int .i64 (0)]) Tryz.results58 ⟨rd_cell tf59.ok rfl (k_pt 2 rfl rfl) rfl,rd_tmp (v:= .int .i64 (0)) rfl,trivial⟩ rfl ?_
  intro w hw
  have hend:=read_end hrs (by rw[←hz28];rintro⟨q1,q2,q3⟩;omega)
  have hw2:=st_mask [true,false,false,false] rfl hw
  rw[hend]at hw2⊢
  refine .inr (.inr ⟨_,hok,read_zero har (by omega),none,_,0,_,(by rw[show epochF k.head=0 by omega];simp only[Nat.zero_add,Nat.add_zero];rfl),?_⟩)
  have hw3:=hw2.emp (row_nil 5 1 _)
  rw[show epochF k.head=0 by omega]at hw3
  exact hw3
 refine csk (c_seq ?_)
 have hrb:recB ((epochF k.head:Nat):Int) zs27=true:=by simpa using hg31
 have hrl:=recP_len hrb
 refine cnz [sv 74 (pp b4 3) [] [] [0],sv 75 (sB pr rs cr) [0] [0] [],sv 76 (sB (recA (adv aa ac (0+sizes rs) 1) (ac-(0+sizes rs)) zs27) (recP zs27) ((recC (ac-(0+sizes rs)) zs27))) [] [] [1],⟨[2],[2],[],[77],fun f=>f 77=sB (sla (f 77)) ((recP zs27)) (slc (f 77))⟩,⟨[2,3],[3],[],[78],fun f=>f 78= .slice (some ⟨(blk (f 78)),0,none⟩) 1 1⟩,⟨[0,1,2,3,4],[1,4],[],[79],fun f=>f 79=sB (sla (f 79)) ((rs++[(recP zs27)])) (slc (f 79))⟩,sv 80 (pp b4 3) (List.range 6) [] [0],⟨(List.range 7),[6,5],[],[],fun _=>True⟩] [(some 5,[5]),(some 7,[1,7])] [⟨(some 3),(some 5),[5],[77],fun f=>rB (sla (f 77)) ((recP zs27)) (slc (f 77))⟩,⟨(some 4),none,[5],[77,78],fun f=>pt (blk (f 78)) (.cells #[sB (sla (f 77)) ((recP zs27)) (slc (f 77))] 22)⟩,⟨(some 5),none,[],[79],fun f=>recsR 22 (sla (f 79)) (slc (f 79)) (rs++[(recP zs27)])⟩,⟨(some 7),none,[],[79],fun f=>pt b4 (.cells #[Nx (epochF k.head),Nx (0+rs.length),.slice none 0 0,sB (sla (f 79)) ((rs++[(recP zs27)])) (slc (f 79)),Nx (0+sizes rs)] 116)⟩] [(4,pp b4 0),(10,sB (recA (adv aa ac (0+sizes rs) 1) (ac-(0+sizes rs)) zs27) (recP zs27) ((recC (ac-(0+sizes rs)) zs27))),(2,pp b2 0),(5,sB aa ar (ac))] [2,0,3,1] ⟨rfl,rfl,rfl,rfl,trivial⟩ ⟨?_,?_,?_,?_,?_,?_,?_,?_,trivial⟩ ?_
 ·rintro f M-⟨i0,-⟩
  exact obE ofp
 ·rintro f M ⟨k0,-⟩-
  exact obE (ols 0)
 ·rintro f M-⟨i0,-⟩
  exact obE oms
 ·rintro f M ⟨k0,-⟩-
  refine obS (up_cons (d:=76) rfl k0) ?_
  refine lcf (cl0 (vs:=[sB (recA (adv aa ac (0+sizes rs) 1) (ac-(0+sizes rs)) zs27) (recP zs27) ((recC (ac-(0+sizes rs)) zs27))]) tf62.ok rfl rfl) rfl fun w β1 sb kn hw1 back=>(clone_ok β1 w hw1 (recP zs27) _ (by omega) (Sl.mono _ _ _ _ _ sb (rec_sl (by omega) (by omega) ze30))).mono ?_
  rintro e w' ⟨p36,c37,rfl,hw'⟩
  refine⟨_,rfl,_,back _ _ hw',?_⟩
  clear hw1 hw' back kn sb
  refine l_nil ?_
  exact f_owes_d (up_cons (d:=76) rfl k0) rfl (perm_front 0 rfl)
 ·rintro f M ⟨k0,-⟩-
  have hs77:f 77=sB (sla (f 77)) ((recP zs27)) (slc (f 77)):=k0
  refine obS (up_cons rfl hs77) ?_
  refine l_mv rfl rfl rfl (m_slices tf66 tf67.ok (cells:= #[sB (sla (f 77)) ((recP zs27)) (slc (f 77))]) rfl rfl rfl rfl) ?_
  rintro _ _ ⟨b39,rfl,rfl⟩
  refine l_nil ?_
  exact f_owes_d (up_cons rfl hs77) rfl (perm_front 0 rfl)
 ·rintro f M ⟨k0,k1,-⟩-
  have hs78:f 78= .slice (some ⟨(blk (f 78)),0,none⟩) 1 1:=k1
  refine obS (up_cons (up_cons (d:=75) rfl k0) hs78) ?_
  refine l_perm (L':=(recsR 22 pr cr rs::rB (sla (f 77)) ((recP zs27)) (slc (f 77))::pt (blk (f 78)) (.cells #[sB (sla (f 77)) ((recP zs27)) (slc (f 77))] 22)::M)) (List.Perm.refl _) ?_
  refine l_mv rfl rfl rfl (m_appendRec (xs:=rs) (bs:=(recP zs27)) (b:=(blk (f 78))) rfl tf66 tf68 rfl rfl (by omega) (by omega)) ?_
  rintro _ _ ⟨rp42,rc43,rfl,rfl⟩
  refine l_nil ?_
  exact f_owes_d (up_cons (up_cons (d:=75) rfl k0) hs78) rfl ((perm_front 0 rfl).trans (perm_front 1 rfl))
 ·rintro f M-⟨i0,-⟩
  exact obE ofp
 ·rintro f M ⟨k0,k1,-⟩-
  have hs79:f 79=sB (sla (f 79)) ((rs++[(recP zs27)])) (slc (f 79)):=k1
  refine obS (up_cons (up_cons (d:=80) rfl k0) hs79) ?_
  refine lu (mS 0 (#[Nx (epochF k.head),Nx (0+rs.length),.slice none 0 0,sB (sla (f 79)) ((rs++[(recP zs27)])) (slc (f 79)),Nx (0+sizes rs)])) ?_
  refine l_nil ?_
  exact f_owes_n (up_cons (up_cons (d:=80) rfl k0) hs79) trivial (perm_front 0 rfl)
 rintro fa44 ⟨-,-,-,-,-,-,-,-,-⟩ ⟨j0,j1,j2,j3,-⟩
 refine fre ?_
 refine f_rebase (d:=2) j0 (f_rebase (d:=4) j1 (f_rebase (d:=5) j2 (f_rebase (d:=10) j3 (ftc (lE ofp (lE (oli 4) ?_))))))
 refine lv (v:=Nx ((0+rs.length)+1)) (e_add rfl rfl (i64n (by omega) (by omega))) (lE ofp ?_)
 refine lu (mS 4 (#[Nx (epochF k.head),Nx ((0+rs.length)+1),.slice none 0 0,sB (sla (fa44 79)) ((rs++[(recP zs27)])) (slc (fa44 79)),Nx (0+sizes rs)])) ?_
 refine lnr (lE ofp (lE (oli 4) (lE oms (lE oln (lv (v:=Nx (24+((recP zs27).length))) (e_add rfl rfl (i64n (by omega) (by omega))) ?_)))))
 refine lv (v:=Nx ((0+sizes rs)+(24+((recP zs27).length)))) (e_add rfl rfl (i64n (by omega) (by omega))) (lE ofp ?_)
 refine lu (mS 4 (#[Nx (epochF k.head),Nx ((0+rs.length)+1),.slice none 0 0,sB (sla (fa44 79)) ((rs++[(recP zs27)])) (slc (fa44 79)),Nx ((0+sizes rs)+(24+((recP zs27).length)))])) ?_
 refine l_nil (f_block ?_)
 have hnx:=read_step hfu hle hrs (by rw[←hz28];exact hrb) (by rw[←hz28];omega) (by omega) (by rw[←hz28];omega)
 rw[←hz28]at hnx
 refine fpn [3,4,0,1,2] 5 ?_
 refine f_mask [true,true,true,true,false] rfl ?_
 exact f_cut ⟨(f,(rs++[(recP zs27)]),(sla (fa44 79)),(slc (fa44 79))),⟨⟨rfl,rfl,rfl⟩,(by simp only[sB,rB,sizes_snoc,List.length_append,List.length_cons,List.length_nil,Nat.add_assoc];try rfl),hnx⟩,(show f<f+1 from Nat.lt_succ_self f)⟩
end Go.Proofs
