/-
 Acts and transactions,whether they are formed: walked. Printed by a program of my own.
-/
import Derived.Test.YtjejfkajcbdgjaaGreatTd1
import Derived.Test.YtjejfkajcbdgjaaGreatSlA
import Derived.Test.YtjejfkajcbdgjaaGreatSlN
namespace Go.Td
open Go.Sl
def KAct.plain (x : KAct) : Bool := decide ((x.kind.toNat : Int) = 1) || decide ((x.kind.toNat : Int) = 2) || decide ((x.kind.toNat : Int) = 4) || decide ((x.kind.toNat : Int) = 7)
def KAct.formed (x : KAct) : Bool :=
 if x.plain then ownB x.owner && decide (x.other = 0) && decide (x.hold = 0) && x.a.within
 else if (x.kind.toNat : Int) = 3 then ownB x.owner && ownB x.other && decide (x.owner ≠ x.other) && decide (x.hold = 0) && x.a.within
 else if (x.kind.toNat : Int) = 5 then decide (x.owner = 0) && decide (x.other = 0) && decide (1 ≤ x.hold) && decide (x.a = zeroA)
 else if (x.kind.toNat : Int) = 6 then decide (x.owner = 0) && ownB x.other && decide (1 ≤ x.hold) && decide (x.a = zeroA)
 else false
theorem nil_empty {α : Type} {R : Rp α} {h : PHeap} {a : Option Addr} {xs : List α} (he : Elems R h a xs) (hn : a.isNone = true) : xs = [] := by
 cases xs with
 | nil => rfl
 | cons x xs => rw [(he 0 x rfl).1] at hn; cases hn
def dformed (au nu : Int) (xs : List KAct) : Bool := decide (1 ≤ au) && decide (au ≤ 64) && decide (1 ≤ nu) && decide (nu ≤ 1099511627776) && decide (1 ≤ (xs.length : Int)) && decide ((xs.length : Int) ≤ 16) && !xs.any (fun z => !z.formed)
theorem same_done {α : Type} {xs ys : List α} {k : Nat} (h1 : xs.length ≤ k) (h2 : ys.length ≤ k) (h : xs.take k = ys.take k) : xs = ys := by
 rwa [List.take_of_length_le h1,List.take_of_length_le h2] at h
theorem same_at {α : Type} {xs ys : List α} {k : Nat} {x y : α} (h : xs = ys) (hx : xs[k]? = some x) (hy : ys[k]? = some y) : x = y := by
 subst h; rw [hx] at hy; injection hy
theorem same_next {α : Type} {xs ys : List α} {k : Nat} {x y : α} (hx : xs[k]? = some x) (hy : ys[k]? = some y) (e : x = y) (h : xs.take k = ys.take k) : xs.take (k + 1) = ys.take (k + 1) := by
 rw [List.take_add_one,List.take_add_one,hx,hy,h,e]
end Go.Td
namespace Go.Proofs
open Go Go.Sl Go.Td
instance tt4 : FldC Tryz.prog 47 0 0 1 false := ⟨by kernel_rfl⟩
instance tt5 : TyC Tryz.prog 5 false 1 := ⟨by kernel_rfl⟩
instance tt6 : FldC Tryz.prog 47 1 1 1 false := ⟨by kernel_rfl⟩
instance tt7 : CfC Tryz.prog 101 := ⟨by kernel_rfl⟩
instance tt8 : FldC Tryz.prog 47 2 2 1 false := ⟨by kernel_rfl⟩
instance tt9 : FldC Tryz.prog 47 3 3 1 false := ⟨by kernel_rfl⟩
instance tt10 : FldC Tryz.prog 47 4 4 4 true := ⟨by kernel_rfl⟩
instance tt11 : CfC Tryz.prog 102 := ⟨by kernel_rfl⟩
theorem tt12 : lay Tryz.prog 10000 44 = some [.int .i64, .int .i64, .int .i64, .int .i64] := by kernel_rfl
theorem tt13 : isAggT Tryz.prog 44 = true := by kernel_rfl
theorem tt14 : Tryz.prog.eqGuardType Tryz.prog.depth 44 = false := by kernel_rfl
instance tt15 : UndC Tryz.prog 30 47 := ⟨by kernel_rfl⟩
theorem tt16 : slB Tryz.prog 30 47 8 = true := by kernel_rfl
instance tt17 : TyC Tryz.prog 47 true 8 := ⟨by kernel_rfl⟩
instance tt18 : CfC Tryz.prog 100 := ⟨by kernel_rfl⟩
instance tt19 : CfC Tryz.prog 56 := ⟨by kernel_rfl⟩
instance tt20 : FldC Tryz.prog 80 0 0 1 false := ⟨by kernel_rfl⟩
instance tt21 : FldC Tryz.prog 80 1 1 1 false := ⟨by kernel_rfl⟩
instance tt22 : FldC Tryz.prog 80 2 2 1 false := ⟨by kernel_rfl⟩
instance tt23 : TyC Tryz.prog 30 false 1 := ⟨by kernel_rfl⟩
instance tt24 : CfC Tryz.prog 54 := ⟨by kernel_rfl⟩
theorem tt25 : lay Tryz.prog 10000 47 = some [.int .u8, .int .i64, .int .i64, .int .i64, .int .i64, .int .i64, .int .i64, .int .i64] := by kernel_rfl
theorem tt26 : isAggT Tryz.prog 47 = true := by kernel_rfl
theorem tt27 : Tryz.prog.eqGuardType Tryz.prog.depth 47 = false := by kernel_rfl
instance tt28 : UndC Tryz.prog 35 3 := ⟨by kernel_rfl⟩
theorem tt29 : slB Tryz.prog 35 3 1 = true := by kernel_rfl
theorem tt30 : elB Tryz.prog 47 8 64 = true := by kernel_rfl
theorem tt31 : elB Tryz.prog 3 1 8 = true := by kernel_rfl
set_option maxHeartbeats 4000000 in
theorem aformed_ok (β : Base) (w : World) (hw : St β [] w) (x : KAct) : Ret Tryz.prog 56 #[.agg #[Bx (x.kind), Ix (x.owner), Ix (x.other), Ix (x.hold), Ix (x.a.a0), Ix (x.a.a1), Ix (x.a.a2), Ix (x.a.a3)]] β w (.bool x.formed) := by
 refine enter (n := 99) Tryz.func56 rfl Tryz.ntmps56 rfl ?_ hw
 refine csr (bxa fun b1 => ?_)
 refine lE oab (lnc ?_)
 refine lv (v := .agg #[.int .i64 (0),.int .i64 (0),.int .i64 (0),.int .i64 (0)]) (e_build_a tt3.ok tt1.ok (vs := []) (cells := #[.int .i64 (0),.int .i64 (0),.int .i64 (0),.int .i64 (0)]) rfl rfl) ?_
 refine alE fun b2 => lu (mS 0 (#[.int .i64 (0),.int .i64 (0),.int .i64 (0),.int .i64 (0)])) (lnf (cs2 (c_region (lE ofp (lE (oli 1) (lnf (c_block ?_)))))))
 refine c_seq_cut (fun (f : Fm) (L : List Res) => ∃ (jn : Bool),(f 1 = pp b1 0 ∧ f 3 = pp b2 0 ∧ f 6 = Bx (x.kind) ∧ f 7 = .bool (jn)) ∧ L = [pt b2 (.cells #[.int .i64 (0),.int .i64 (0),.int .i64 (0),.int .i64 (0)] 44),pt b1 (.cells #[Bx (x.kind),Ix (x.owner),Ix (x.other),Ix (x.hold),Ix (x.a.a0),Ix (x.a.a1),Ix (x.a.a2),Ix (x.a.a3)] 47)] ∧ (jn = x.plain)) ?_ ?_
 ·refine csr (lE oeq_ (lE oab (lnf (c_if _ rfl (fun hc3 => ?_) (fun hc3 => ?_)))))
  ·refine c_skip ?_
   exact f_cut ⟨decide (((x.kind).toNat : Int) = (1 : Int)),⟨rfl,rfl,rfl,rfl⟩,rfl,(by simp_all [KAct.plain])⟩
  refine csr (lE oeq_ (lE oab (lnf (c_if _ rfl (fun hc4 => ?_) (fun hc4 => ?_)))))
  ·refine c_skip ?_
   exact f_cut ⟨decide (((x.kind).toNat : Int) = (2 : Int)),⟨rfl,rfl,rfl,rfl⟩,rfl,(by simp_all [KAct.plain])⟩
  refine csr (lE oeq_ (lE oab (lnf (c_if _ rfl (fun hc5 => ?_) (fun hc5 => ?_)))))
  ·refine c_skip ?_
   exact f_cut ⟨decide (((x.kind).toNat : Int) = (4 : Int)),⟨rfl,rfl,rfl,rfl⟩,rfl,(by simp_all [KAct.plain])⟩
  refine c_region (lE oeq_ (lE oab (l_nil ?_)))
  exact f_cut ⟨decide (((x.kind).toNat : Int) = (7 : Int)),⟨rfl,rfl,rfl,rfl⟩,rfl,(by simp_all [KAct.plain])⟩
 rintro f0 L0 ⟨jn,⟨hs1,hs3,hs6,hs7⟩,hL,hjn⟩
 subst L0
 refine rbs 1 hs1 (rbs 3 hs3 (rbs 6 hs6 (rbs 7 hs7 (c_ifb (jn) rfl (fun hc6 => ?_) (fun hc6 => ?_)))))
 ·refine csr (lE ofp (lE (oli 1) (lcR clA (fun w β1 sb kn hw1 => owner_ok β1 w hw1 (x.owner)) ?_)))
  refine l_and3 (ownB x.owner) (decide ((x.other) = (0 : Int))) rfl (fun hb7 hk7 => ?_) (fun z8 z9 z10 => ?_)
  ·refine gE ofp (gE (oli 1) (gE oeq_ (lE oktb ?_)))
   exact hk7 _ _ _
  refine l_and3 ((ownB x.owner) && (decide ((x.other) = (0 : Int)))) (decide ((x.hold) = (0 : Int))) rfl (fun hb11 hk11 => ?_) (fun z12 z13 z14 => ?_)
  ·refine gE ofp (gE (oli 1) (gE oeq_ (lE oktb ?_)))
   exact hk11 _ _ _
  refine l_and3 (((ownB x.owner) && (decide ((x.other) = (0 : Int)))) && (decide ((x.hold) = (0 : Int)))) x.a.within rfl (fun hb15 hk15 => ?_) (fun z16 z17 z18 => ?_)
  ·refine gE ofp (gE (olg 1) (g_call rfl rfl rfl rfl rfl (cl0 (vs := [.agg (amC x.a)]) tt11.ok rfl rfl) ?_))
   intro w hw
   obtain ⟨β1,sb,kn,hw1,back⟩ := St.frame_all hw
   refine (within_ok β1 w hw1 x.a).mono ?_
   rintro e w' ⟨rfl,hw'⟩
   refine ⟨_,rfl,_,back _ _ hw',?_⟩
   clear hw hw1 hw' back kn sb
   refine lE oktb ?_
   exact hk15 _ _ _
  refine lE oab (lnf (c_ret (f_block_ret (f_then_ret (ret1 Tryz.results56 rfl ?_)))))
  intro w hw
  exact ⟨congrArg (fun b : Bool => Ending.returned (.bool b)) (show ((((ownB x.owner) && (decide ((x.other) = (0 : Int)))) && (decide ((x.hold) = (0 : Int)))) && x.a.within) = x.formed by unfold KAct.formed; simp_all),st_mask [false,false] rfl hw⟩
 refine csr (lE oeq_ (lE oab (lnf (c_if _ rfl (fun hc19 => ?_) (fun hc19 => ?_)))))
 ·refine csr (lE ofp (lE (oli 1) (lcR clA (fun w β1 sb kn hw1 => owner_ok β1 w hw1 (x.owner)) ?_)))
  refine l_and3 (ownB x.owner) (ownB x.other) rfl (fun hb20 hk20 => ?_) (fun z21 z22 z23 => ?_)
  ·refine gE ofp (gE (oli 1) (g_call rfl rfl rfl rfl rfl (cl0 (vs := [Ix (x.other)]) tt7.ok rfl rfl) ?_))
   intro w hw
   obtain ⟨β1,sb,kn,hw1,back⟩ := St.frame_all hw
   refine (owner_ok β1 w hw1 (x.other)).mono ?_
   rintro e w' ⟨rfl,hw'⟩
   refine ⟨_,rfl,_,back _ _ hw',?_⟩
   clear hw hw1 hw' back kn sb
   refine lE oktb ?_
   exact hk20 _ _ _
  refine l_and5 ((ownB x.owner) && (ownB x.other)) (decide ((x.owner) ≠ (x.other))) rfl (fun hb24 hk24 => ?_) (fun z25 z26 z27 z28 z29 => ?_)
  ·refine gE ofp (gE (oli 1) (gE ofp (gE (oli 1) (gE onq (lE oktb ?_)))))
   exact hk24 _ _ _ _ _
  refine l_and3 (((ownB x.owner) && (ownB x.other)) && (decide ((x.owner) ≠ (x.other)))) (decide ((x.hold) = (0 : Int))) rfl (fun hb30 hk30 => ?_) (fun z31 z32 z33 => ?_)
  ·refine gE ofp (gE (oli 1) (gE oeq_ (lE oktb ?_)))
   exact hk30 _ _ _
  refine l_and3 ((((ownB x.owner) && (ownB x.other)) && (decide ((x.owner) ≠ (x.other)))) && (decide ((x.hold) = (0 : Int)))) x.a.within rfl (fun hb34 hk34 => ?_) (fun z35 z36 z37 => ?_)
  ·refine gE ofp (gE (olg 1) (g_call rfl rfl rfl rfl rfl (cl0 (vs := [.agg (amC x.a)]) tt11.ok rfl rfl) ?_))
   intro w hw
   obtain ⟨β1,sb,kn,hw1,back⟩ := St.frame_all hw
   refine (within_ok β1 w hw1 x.a).mono ?_
   rintro e w' ⟨rfl,hw'⟩
   refine ⟨_,rfl,_,back _ _ hw',?_⟩
   clear hw hw1 hw' back kn sb
   refine lE oktb ?_
   exact hk34 _ _ _
  refine lE oab (lnf (c_ret (f_block_ret (f_then_ret (ret1 Tryz.results56 rfl ?_)))))
  intro w hw
  exact ⟨congrArg (fun b : Bool => Ending.returned (.bool b)) (show (((((ownB x.owner) && (ownB x.other)) && (decide ((x.owner) ≠ (x.other)))) && (decide ((x.hold) = (0 : Int)))) && x.a.within) = x.formed by unfold KAct.formed; simp_all),st_mask [false,false] rfl hw⟩
 refine csr (lE oeq_ (lE oab (lnf (c_if _ rfl (fun hc38 => ?_) (fun hc38 => ?_)))))
 ·refine csr (lE ofp (lE (oli 1) (lE oeq_ ?_)))
  refine l_and3 (decide ((x.owner) = (0 : Int))) (decide ((x.other) = (0 : Int))) rfl (fun hb39 hk39 => ?_) (fun z40 z41 z42 => ?_)
  ·have hb39p := of_decide_eq_true hb39
   refine gE ofp (gE (oli 1) (gE oeq_ (lE oktb ?_)))
   exact hk39 _ _ _
  refine l_and3 ((decide ((x.owner) = (0 : Int))) && (decide ((x.other) = (0 : Int)))) (decide ((1 : Int) ≤ (x.hold))) rfl (fun hb43 hk43 => ?_) (fun z44 z45 z46 => ?_)
  ·refine gE ofp (gE (oli 1) (gE oge (lE oktb ?_)))
   exact hk43 _ _ _
  refine l_and4 (((decide ((x.owner) = (0 : Int))) && (decide ((x.other) = (0 : Int)))) && (decide ((1 : Int) ≤ (x.hold)))) (decide (x.a = zeroA)) rfl (fun hb47 hk47 => ?_) (fun z48 z49 z50 z51 => ?_)
  ·refine gE ofp (gE (olg 1) (gE (olg 0) ?_))
   refine g_val (v := .bool (decide (x.a = zeroA))) rfl rfl rfl rfl rfl (e_eql_t (xs := amE x.a) (ys := amE zeroA) tt12 tt13 tt14 rfl rfl rfl rfl (am_eq (x := x.a) (y := zeroA))) ?_
   refine lE oktb ?_
   exact hk47 _ _ _ _
  refine lE oab (lnf (c_ret (f_block_ret (f_then_ret (ret1 Tryz.results56 rfl ?_)))))
  intro w hw
  exact ⟨congrArg (fun b : Bool => Ending.returned (.bool b)) (show ((((decide ((x.owner) = (0 : Int))) && (decide ((x.other) = (0 : Int)))) && (decide ((1 : Int) ≤ (x.hold)))) && (decide (x.a = zeroA))) = x.formed by unfold KAct.formed; simp_all),st_mask [false,false] rfl hw⟩
 refine csr (lE oeq_ (lE oab (lnf (c_if _ rfl (fun hc52 => ?_) (fun hc52 => ?_)))))
 ·refine csr (lE ofp (lE (oli 1) (lE oeq_ (l_and3 (decide ((x.owner) = (0 : Int))) (ownB x.other) rfl (fun hb53 hk53 => ?_) (fun z54 z55 z56 => ?_)))))
  ·have hb53p := of_decide_eq_true hb53
   refine gE ofp (gE (oli 1) (g_call rfl rfl rfl rfl rfl (cl0 (vs := [Ix (x.other)]) tt7.ok rfl rfl) ?_))
   intro w hw
   obtain ⟨β1,sb,kn,hw1,back⟩ := St.frame_all hw
   refine (owner_ok β1 w hw1 (x.other)).mono ?_
   rintro e w' ⟨rfl,hw'⟩
   refine ⟨_,rfl,_,back _ _ hw',?_⟩
   clear hw hw1 hw' back kn sb
   refine lE oktb ?_
   exact hk53 _ _ _
  refine l_and3 ((decide ((x.owner) = (0 : Int))) && (ownB x.other)) (decide ((1 : Int) ≤ (x.hold))) rfl (fun hb57 hk57 => ?_) (fun z58 z59 z60 => ?_)
  ·refine gE ofp (gE (oli 1) (gE oge (lE oktb ?_)))
   exact hk57 _ _ _
  refine l_and4 (((decide ((x.owner) = (0 : Int))) && (ownB x.other)) && (decide ((1 : Int) ≤ (x.hold)))) (decide (x.a = zeroA)) rfl (fun hb61 hk61 => ?_) (fun z62 z63 z64 z65 => ?_)
  ·refine gE ofp (gE (olg 1) (gE (olg 0) ?_))
   refine g_val (v := .bool (decide (x.a = zeroA))) rfl rfl rfl rfl rfl (e_eql_t (xs := amE x.a) (ys := amE zeroA) tt12 tt13 tt14 rfl rfl rfl rfl (am_eq (x := x.a) (y := zeroA))) ?_
   refine lE oktb ?_
   exact hk61 _ _ _ _
  refine lE oab (lnf (c_ret (f_block_ret (f_then_ret (ret1 Tryz.results56 rfl ?_)))))
  intro w hw
  exact ⟨congrArg (fun b : Bool => Ending.returned (.bool b)) (show ((((decide ((x.owner) = (0 : Int))) && (ownB x.other)) && (decide ((1 : Int) ≤ (x.hold)))) && (decide (x.a = zeroA))) = x.formed by unfold KAct.formed; simp_all),st_mask [false,false] rfl hw⟩
 refine c_skip (f_block (ftc (lE oab (lnf (c_ret (ret1 Tryz.results56 rfl ?_))))))
 intro w hw
 exact ⟨congrArg (fun b : Bool => Ending.returned (.bool b)) (show false = x.formed by unfold KAct.formed; simp_all),st_mask [false,false] rfl hw⟩
set_option maxHeartbeats 4000000 in
theorem indexA_ok (β : Base) (w : World) (hw : St β [] w) (v fn : Value) (xs : List KAct) (hs : Sl ActF.R β.heap v xs) (p : KAct → Bool) (hfn : FnV Tryz.prog β fn (fun z : KAct => [.agg #[Bx (z.kind), Ix (z.owner), Ix (z.other), Ix (z.hold), Ix (z.a.a0), Ix (z.a.a1), Ix (z.a.a2), Ix (z.a.a3)]]) (· ∈ xs) (fun z => .bool (p z))) : Ret Tryz.prog 100 #[v, fn] β w (Ix (idxI p xs)) := by
 obtain ⟨va,vc,rfl,vl,vm,ve⟩ := hs.get
 obtain ⟨gg,fst,cap,rfl,hcf,hf⟩ := hfn
 refine enter (n := 19) Tryz.func100 rfl Tryz.ntmps100 rfl ?_ hw
 refine csr (lE oai (lnf (cs2 (c_region (lE oms (lE oln (lE omi (lnf (c_block ?_)))))))))
 refine c_loop (fun (k : Nat) f L => (f 0 = sB va xs (vc) ∧ f 1 = .func (.func gg) fst.toArray cap.toArray ∧ f 7 = Nx (xs.length) ∧ f 8 = Nx (k)) ∧ L = [] ∧ (k ≤ xs.length ∧ ∀ y ∈ xs.take k,p y = false)) (fun k => xs.length - k) 0 ?_ ?_
 ·exact ⟨⟨rfl,rfl,rfl,rfl⟩,rfl,⟨by omega,fun y hy => by simp at hy⟩⟩
 rintro k f0 L0 ⟨⟨hs0,hs1,hs7,hs8⟩,hL,⟨hk,hp⟩⟩
 subst L0
 refine rbs 0 hs0 (rbs 1 hs1 (rbs 7 hs7 (rbs 8 hs8 (csr (lE olt (lnf (c_seq (c_if _ rfl (fun hc1 => ?_) (fun hc1 => ?_)))))))))
 ·refine csk (c_seq (c_block (csr (lE omi (lE oai (lnc (lE omf (lE oms (lE omi ?_)))))))))
  obtain ⟨x2,hx2⟩ := getx xs k (by omega)
  obtain ⟨ha4,cs5,hc6,rfl⟩ := ve _ _ hx2
  refine lE (oia tt16 ha4) ?_
  refine lv (v := .agg #[Bx (x2.kind),Ix (x2.owner),Ix (x2.other),Ix (x2.hold),Ix (x2.a.a0),Ix (x2.a.a1),Ix (x2.a.a2),Ix (x2.a.a3)]) (e_load tt17.ok rfl (kB hc6) rfl) ?_
  refine l_call rfl rfl rfl (cl_value (fst := fst) (cap := cap) (vs := [.agg #[Bx (x2.kind),Ix (x2.owner),Ix (x2.other),Ix (x2.hold),Ix (x2.a.a0),Ix (x2.a.a1),Ix (x2.a.a2),Ix (x2.a.a3)]]) (all := fst ++ [.agg #[Bx (x2.kind),Ix (x2.owner),Ix (x2.other),Ix (x2.hold),Ix (x2.a.a0),Ix (x2.a.a1),Ix (x2.a.a2),Ix (x2.a.a3)]] ++ cap) hcf rfl rfl rfl) ?_
  intro w hw
  obtain ⟨β1,sb,kn,hw1,back⟩ := St.frame_all hw
  refine (hf β1 sb x2 (List.mem_of_getElem? hx2) w hw1).mono ?_
  rintro e w' ⟨rfl,hw'⟩
  refine ⟨_,rfl,_,back _ _ hw',?_⟩
  clear hw hw1 hw' back kn sb
  refine lnf (c_ifb (p x2) rfl (fun hc8 => ?_) (fun hc8 => ?_))
  ·refine csr (lE omi (lE oai (lnf (c_ret (f_block_ret (f_then_ret (f_then_ret (f_block_ret (f_then_ret (ret1 Tryz.results100 rfl ?_))))))))))
   intro w hw
   exact ⟨congrArg (fun z : Int => Ending.returned (Ix z)) (idx_found hx2 hc8 hp).symm,st_mask [] rfl hw⟩
  refine c_skip (f_block (f_then (c_region (lv (v := Nx (k + 1)) (e_add rfl rfl (i64n (by omega) (by omega))) (lE omi (l_nil ?_))))))
  exact f_cut ⟨k + 1,⟨⟨rfl,rfl,rfl,rfl⟩,rfl,⟨by omega,idx_next hx2 hc8 hp⟩⟩,(show xs.length - (k + 1) < xs.length - k from by omega)⟩
 refine c_exit (f_then_exit (f_then_exit (f_exit (ftc (lE oai (lnf (c_ret (ret1 Tryz.results100 rfl ?_))))))))
 intro w hw
 exact ⟨congrArg (fun z : Int => Ending.returned (Ix z)) (idx_none (by omega) hp).symm,st_mask [] rfl hw⟩
theorem containsA_ok (β : Base) (w : World) (hw : St β [] w) (v fn : Value) (xs : List KAct) (hs : Sl ActF.R β.heap v xs) (p : KAct → Bool) (hfn : FnV Tryz.prog β fn (fun z : KAct => [.agg #[Bx (z.kind), Ix (z.owner), Ix (z.other), Ix (z.hold), Ix (z.a.a0), Ix (z.a.a1), Ix (z.a.a2), Ix (z.a.a3)]]) (· ∈ xs) (fun z => .bool (p z))) : Ret Tryz.prog 54 #[v, fn] β w (.bool (xs.any p)) := by
 refine enter (n := 9) Tryz.func54 rfl Tryz.ntmps54 rfl ?_ hw
 refine csr (lE oab (lnc (lv e_move (lv e_move (lcR clA (fun w β1 sb kn hw1 => indexA_ok β1 w hw1 _ _ xs (Sl.mono _ _ _ _ _ sb hs) p (hfn.mono sb)) ?_)))))
 refine lE oge (lE oab (lnf (c_ret (ret1 Tryz.results54 rfl ?_))))
 intro w hw
 exact ⟨congrArg Ending.returned (congrArg Value.bool (idx_any p xs)),st_mask [] rfl hw⟩
theorem form1_fn (β : Base) : FnV Tryz.prog β (.func (.func 55) #[] #[]) (fun z : KAct => [.agg #[Bx (z.kind), Ix (z.owner), Ix (z.other), Ix (z.hold), Ix (z.a.a0), Ix (z.a.a1), Ix (z.a.a2), Ix (z.a.a3)]]) (fun _ => True) (fun z => .bool (!z.formed)) := by
 refine ⟨55,[],[],rfl,by kernel_rfl,fun β₁ sb0 z_ hz_ w hw => ?_⟩
 obtain ⟨x,hx⟩ : ∃ x,x = z_ := ⟨_,rfl⟩
 subst hx
 refine enter (n := 6) Tryz.func55 rfl Tryz.ntmps55 rfl ?_ hw
 refine csr (bxa fun b1 => ?_)
 refine lE oab (lnc (lE (olg 0) (lcR clA (fun w β1 sb kn hw1 => aformed_ok β1 w hw1 x) (lE ont (lE oab (lnf (c_ret (ret1 Tryz.results55 rfl ?_))))))))
 intro w hw
 exact ⟨rfl,st_mask [false] rfl hw⟩
theorem dformed_ok (β : Base) (w : World) (hw : St β [] w) (au nu : Int) (v : Value) (xs : List KAct) (hs : Sl ActF.R β.heap v xs) : Ret Tryz.prog 34 #[.agg #[Ix au, Ix nu, v]] β w (.bool (dformed au nu xs)) := by
 obtain ⟨va,vc,rfl,vl,vm,ve⟩ := hs.get
 refine enter (n := 39) Tryz.func34 rfl Tryz.ntmps34 rfl ?_ hw
 refine csr (bxa fun b1 => ?_)
 refine lE oab (lnc (lE ofp (lE (oli 0) (lE oge ?_))))
 refine l_and3 (decide ((1 : Int) ≤ (au))) (decide ((au) ≤ (64 : Int))) rfl (fun hb2 hk2 => ?_) (fun z3 z4 z5 => ?_)
 ·have hb2p := of_decide_eq_true hb2
  refine gE ofp (gE (oli 0) (gE ole (lE oktb ?_)))
  exact hk2 _ _ _
 refine l_and3 ((decide ((1 : Int) ≤ (au))) && (decide ((au) ≤ (64 : Int)))) (decide ((1 : Int) ≤ (nu))) rfl (fun hb6 hk6 => ?_) (fun z7 z8 z9 => ?_)
 ·refine gE ofp (gE (oli 0) (gE oge (lE oktb ?_)))
  exact hk6 _ _ _
 refine l_and3 (((decide ((1 : Int) ≤ (au))) && (decide ((au) ≤ (64 : Int)))) && (decide ((1 : Int) ≤ (nu)))) (decide ((nu) ≤ (1099511627776 : Int))) rfl (fun hb10 hk10 => ?_) (fun z11 z12 z13 => ?_)
 ·refine gE ofp (gE (oli 0) (gE ole (lE oktb ?_)))
  exact hk10 _ _ _
 refine l_and4 ((((decide ((1 : Int) ≤ (au))) && (decide ((au) ≤ (64 : Int)))) && (decide ((1 : Int) ≤ (nu)))) && (decide ((nu) ≤ (1099511627776 : Int)))) (decide ((1 : Int) ≤ ((xs.length : Nat) : Int))) rfl (fun hb14 hk14 => ?_) (fun z15 z16 z17 z18 => ?_)
 ·refine gE ofp (gE (ols 0) (gE oln (gE oge (lE oktb ?_))))
  exact hk14 _ _ _ _
 refine l_and4 (((((decide ((1 : Int) ≤ (au))) && (decide ((au) ≤ (64 : Int)))) && (decide ((1 : Int) ≤ (nu)))) && (decide ((nu) ≤ (1099511627776 : Int)))) && (decide ((1 : Int) ≤ ((xs.length : Nat) : Int)))) (decide (((xs.length : Nat) : Int) ≤ (16 : Int))) rfl (fun hb19 hk19 => ?_) (fun z20 z21 z22 z23 => ?_)
 ·refine gE ofp (gE (ols 0) (gE oln (gE ole (lE oktb ?_))))
  exact hk19 _ _ _ _
 refine l_and4 ((((((decide ((1 : Int) ≤ (au))) && (decide ((au) ≤ (64 : Int)))) && (decide ((1 : Int) ≤ (nu)))) && (decide ((nu) ≤ (1099511627776 : Int)))) && (decide ((1 : Int) ≤ ((xs.length : Nat) : Int)))) && (decide (((xs.length : Nat) : Int) ≤ (16 : Int)))) (!(xs.any (fun z => !z.formed))) rfl (fun hb24 hk24 => ?_) (fun z25 z26 z27 z28 => ?_)
 ·refine gE ofp (gE (ols 0) (g_call rfl rfl rfl rfl rfl (cl0 (vs := [sB va xs (vc),.func (.func 55) #[] #[]]) tt24.ok rfl rfl) ?_))
  intro w hw
  obtain ⟨β1,sb,kn,hw1,back⟩ := St.frame_all hw
  refine (containsA_ok β1 w hw1 _ _ xs (Sl.mono _ _ _ _ _ sb (⟨⟨_,_,rfl,vl,vm,ve⟩⟩ : Sl ActF.R _ _ xs)) (fun z => !z.formed) (fnv_all (form1_fn _))).mono ?_
  rintro e w' ⟨rfl,hw'⟩
  refine ⟨_,rfl,_,back _ _ hw',?_⟩
  clear hw hw1 hw' back kn sb
  refine gE ont (lE oktb ?_)
  exact hk24 _ _ _ _
 refine lE oab (lnf (c_ret (ret1 Tryz.results34 rfl ?_)))
 intro w hw
 exact ⟨congrArg (fun b : Bool => Ending.returned (.bool b)) (show (((((((decide ((1 : Int) ≤ (au))) && (decide ((au) ≤ (64 : Int)))) && (decide ((1 : Int) ≤ (nu)))) && (decide ((nu) ≤ (1099511627776 : Int)))) && (decide ((1 : Int) ≤ ((xs.length : Nat) : Int)))) && (decide (((xs.length : Nat) : Int) ≤ (16 : Int)))) && (!(xs.any (fun z => !z.formed)))) = dformed au nu xs by unfold dformed; rfl),st_mask [false] rfl hw⟩
set_option maxHeartbeats 4000000 in
theorem equalA_ok (β : Base) (w : World) (hw : St β [] w) (v u : Value) (xs ys : List KAct) (hs : Sl ActF.R β.heap v xs) (ht : Sl ActF.R β.heap u ys) : Ret Tryz.prog 35 #[v, u] β w (.bool (decide (xs = ys))) := by
 obtain ⟨va,vc,rfl,vl,vm,ve⟩ := hs.get
 obtain ⟨ua,uc,rfl,ul,um,ue⟩ := ht.get
 refine enter (n := 26) Tryz.func35 rfl Tryz.ntmps35 rfl ?_ hw
 refine csr (lE oab (lnf (cs2 (c_region (lE oms (lE oln (lE oms (lE oln (lE onq (lnf (c_if _ rfl (fun hc1 => ?_) (fun hc1 => ?_))))))))))))
 ·refine csr (lE oab (lnf (c_ret (f_then_ret (ret1 Tryz.results35 rfl ?_)))))
  intro w hw
  exact ⟨congrArg (fun b : Bool => Ending.returned (.bool b)) (decide_eq_false (fun q => hc1 (by rw [q]))).symm,st_mask [] rfl hw⟩
 refine csk (cs2 (c_region (lE oms (lE oln (lE omi (lnf (c_block ?_)))))))
 refine c_loop (fun (k : Nat) f L => (f 0 = sB va xs (vc) ∧ f 1 = sB ua ys (uc) ∧ f 12 = Nx (xs.length) ∧ f 13 = Nx (k)) ∧ L = [] ∧ (k ≤ xs.length ∧ xs.take k = ys.take k)) (fun k => xs.length - k) 0 ?_ ?_
 ·exact ⟨⟨rfl,rfl,rfl,rfl⟩,rfl,⟨by omega,rfl⟩⟩
 rintro k f0 L0 ⟨⟨hs0,hs1,hs12,hs13⟩,hL,⟨hk,hp⟩⟩
 subst L0
 refine rbs 0 hs0 (rbs 1 hs1 (rbs 12 hs12 (rbs 13 hs13 (csr (lE olt (lnf (c_seq (c_if _ rfl (fun hc2 => ?_) (fun hc2 => ?_)))))))))
 ·refine csk (c_seq (c_block (csr (lE omi (lE oai (lnf (c_seq (c_quiet (by kernel_rfl) (by kernel_rfl) (qE oms (qE omi ?_))))))))))
  obtain ⟨x3,hx4⟩ := getx xs k (by omega)
  obtain ⟨ha5,cs6,hc7,rfl⟩ := ve _ _ hx4
  refine qE (oia tt16 ha5) ?_
  refine q_val (v := .agg #[Bx (x3.kind),Ix (x3.owner),Ix (x3.other),Ix (x3.hold),Ix (x3.a.a0),Ix (x3.a.a1),Ix (x3.a.a2),Ix (x3.a.a3)]) rfl rfl rfl (e_load tt17.ok rfl (kB hc7) rfl) ?_
  refine qE oms (qE omi ?_)
  obtain ⟨x9,hx10⟩ := getx ys k (by omega)
  obtain ⟨ha11,cs12,hc13,rfl⟩ := ue _ _ hx10
  refine qE (oia tt16 ha11) ?_
  refine q_val (v := .agg #[Bx (x9.kind),Ix (x9.owner),Ix (x9.other),Ix (x9.hold),Ix (x9.a.a0),Ix (x9.a.a1),Ix (x9.a.a2),Ix (x9.a.a3)]) rfl rfl rfl (e_load tt17.ok rfl (kB hc13) rfl) ?_
  refine q_val (v := .bool (decide (¬ (x3 = x9)))) rfl rfl rfl (e_neq_t (xs := actE x3) (ys := actE x9) tt25 tt26 tt27 rfl rfl rfl rfl (not_congr (act_eq (x := x3) (y := x9)))) ?_
  refine q_nil (f_then (c_if _ rfl (fun hc15 => ?_) (fun hc15 => ?_)))
  ·refine csr (lE oab (lnf (c_ret (f_block_ret (f_then_ret (f_then_ret (f_block_ret (f_then_ret (ret1 Tryz.results35 rfl ?_)))))))))
   intro w hw
   exact ⟨congrArg (fun b : Bool => Ending.returned (.bool b)) (decide_eq_false (fun q => hc15 (same_at q hx4 hx10))).symm,st_mask [] rfl hw⟩
  refine c_skip (f_block (f_then (c_region (lv (v := Nx (k + 1)) (e_add rfl rfl (i64n (by omega) (by omega))) (lE omi (l_nil ?_))))))
  exact f_cut ⟨k + 1,⟨⟨rfl,rfl,rfl,rfl⟩,rfl,⟨by omega,same_next hx4 hx10 (Decidable.not_not.1 hc15) hp⟩⟩,(show xs.length - (k + 1) < xs.length - k from by omega)⟩
 refine c_exit (f_then_exit (f_then_exit (f_exit (ftc (lE oab (lnf (c_ret (ret1 Tryz.results35 rfl ?_))))))))
 intro w hw
 exact ⟨congrArg (fun b : Bool => Ending.returned (.bool b)) (decide_eq_true (same_done (by omega) (by omega) hp)).symm,st_mask [] rfl hw⟩
set_option maxHeartbeats 4000000 in
theorem sameI_ok (β : Base) (w : World) (hw : St β [] w) (v u : Value) (xs ys : List Int) (hs : Sl IntF.R β.heap v xs) (ht : Sl IntF.R β.heap u ys) : Ret Tryz.prog 16 #[v, u] β w (.bool (decide (xs = ys))) := by
 obtain ⟨va,vc,rfl,vl,vm,ve⟩ := hs.get
 obtain ⟨ua,uc,rfl,ul,um,ue⟩ := ht.get
 refine enter (n := 26) Tryz.func16 rfl Tryz.ntmps16 rfl ?_ hw
 refine csr (lE oab (lnf (cs2 (c_region (lE oms (lE oln (lE oms (lE oln (lE onq (lnf (c_if _ rfl (fun hc1 => ?_) (fun hc1 => ?_))))))))))))
 ·refine csr (lE oab (lnf (c_ret (f_then_ret (ret1 Tryz.results16 rfl ?_)))))
  intro w hw
  exact ⟨congrArg (fun b : Bool => Ending.returned (.bool b)) (decide_eq_false (fun q => hc1 (by rw [q]))).symm,st_mask [] rfl hw⟩
 refine csk (cs2 (c_region (lE oai (lnf (c_block ?_)))))
 refine c_loop (fun (k : Nat) f L => (f 0 = sB va xs (vc) ∧ f 1 = sB ua ys (uc) ∧ f 5 = Nx (k)) ∧ L = [] ∧ (k ≤ xs.length ∧ xs.take k = ys.take k)) (fun k => xs.length - k) 0 ?_ ?_
 ·exact ⟨⟨rfl,rfl,rfl⟩,rfl,⟨by omega,rfl⟩⟩
 rintro k f0 L0 ⟨⟨hs0,hs1,hs5⟩,hL,⟨hk,hp⟩⟩
 subst L0
 refine rbs 0 hs0 (rbs 1 hs1 (rbs 5 hs5 (cs2 (c_region (lE omi (lE oms (lE oln (lE olt (lnf (c_if _ rfl (fun hc2 => ?_) (fun hc2 => ?_)))))))))))
 ·refine csk (c_seq (c_block (c_seq (c_quiet (by kernel_rfl) (by kernel_rfl) (qE oms (qE omi ?_))))))
  obtain ⟨x3,hx4⟩ := getx xs k (by omega)
  obtain ⟨ha5,cs6,hc7,rfl⟩ := ve _ _ hx4
  refine qE (oia tt29 ha5) (q_val (v := Ix (x3)) rfl rfl rfl (e_load1 tt2.ok rfl (kB hc7)) (qE oms (qE omi ?_)))
  obtain ⟨x9,hx10⟩ := getx ys k (by omega)
  obtain ⟨ha11,cs12,hc13,rfl⟩ := ue _ _ hx10
  refine qE (oia tt29 ha11) (q_val (v := Ix (x9)) rfl rfl rfl (e_load1 tt2.ok rfl (kB hc13)) (qE onq (q_nil (f_then ?_))))
  refine c_if _ rfl (fun hc15 => ?_) (fun hc15 => ?_)
  ·refine csr (lE oab (lnf (c_ret (f_block_ret (f_then_ret (f_then_ret (f_block_ret (f_then_ret (ret1 Tryz.results16 rfl ?_)))))))))
   intro w hw
   exact ⟨congrArg (fun b : Bool => Ending.returned (.bool b)) (decide_eq_false (fun q => hc15 (same_at q hx4 hx10))).symm,st_mask [] rfl hw⟩
  refine c_skip (f_block (f_then (c_region (lE omi (lv (v := Nx (k + 1)) (e_add rfl rfl (i64n (by omega) (by omega))) (lE oai (l_nil ?_)))))))
  exact f_cut ⟨k + 1,⟨⟨rfl,rfl,rfl⟩,rfl,⟨by omega,same_next hx4 hx10 (Decidable.not_not.1 hc15) hp⟩⟩,(show xs.length - (k + 1) < xs.length - k from by omega)⟩
 refine c_exit (f_then_exit (f_then_exit (f_exit (ftc (lE oab (lnf (c_ret (ret1 Tryz.results16 rfl ?_))))))))
 intro w hw
 exact ⟨congrArg (fun b : Bool => Ending.returned (.bool b)) (decide_eq_true (same_done (by omega) (by omega) hp)).symm,st_mask [] rfl hw⟩
theorem cloneA_ok (β : Base) (w : World) (hw : St β [] w) (v : Value) (xs : List KAct) (hs : Sl ActF.R β.heap v xs) (hn : xs.length ≤ 1048576) : Calls Tryz.prog 33 #[v] w fun r w' => ∃ p c, r = .returned (sB p xs c) ∧ St β [rowF ActF 47 p c xs] w' := by
 obtain ⟨va,vc,rfl,vl,vm,ve⟩ := hs.get
 refine enter (n := 8) Tryz.func33 rfl Tryz.ntmps33 rfl ?_ hw
 refine csr (lE oas (lnf (cs2 (c_region (lE oms (lv (v := .bool (va.isNone)) (e_eql_snil (a := va) rfl rfl tt15.ok) (lnf ?_)))))))
 refine c_ifb (va.isNone) rfl (fun hc1 => ?_) (fun hc1 => ?_)
 ·refine csr (lE oas (lnf (c_ret (f_then_ret (ret1 Tryz.results33 rfl ?_)))))
  intro w hw
  obtain rfl := nil_empty ve hc1
  exact ⟨none,0,rfl,(st_mask [] rfl hw).emp (row_nil _ _ _)⟩
 refine csk (csr (l_mv rfl rfl rfl (m_slice0 tt16) ?_))
 rintro _ _ ⟨b2,rfl,rfl⟩
 refine lE oms (l_conseq 0 (r' := rowF ActF 47 (some ⟨b2,0,none⟩) 0 []) rfl (fun a h => pt_row (m := 0) (by decide) rfl a h) ?_)
 refine l_mv rfl rfl rfl (m_appendFlN (F := ActF) 0 tt16 tt30 (p := (some ⟨b2,0,none⟩)) (m := 0) (xs := []) (ys := xs) (ao := va) (k := xs.length) (c := vc) rfl rfl rfl rfl rfl (Knows.of_base (Elems.mono _ _ _) ve) (by first | omega | simp only [List.length_nil,List.length_cons,List.length_append,List.length_set]; omega) (by first | omega | simp only [List.length_nil,List.length_cons,List.length_append,List.length_set]; omega)) ?_
 rintro _ _ ⟨rp3,rc4,rfl,rfl⟩
 refine lE oas (lnf (c_ret (ret1 Tryz.results33 rfl ?_)))
 intro w hw
 exact ⟨_,_,rfl,st_mask (L' := [rowF ActF 47 rp3 rc4 xs]) [true] rfl hw⟩
theorem cloneI_ok (β : Base) (w : World) (hw : St β [] w) (v : Value) (xs : List Int) (hs : Sl IntF.R β.heap v xs) (hn : xs.length ≤ 1048576) : Calls Tryz.prog 57 #[v] w fun r w' => ∃ p c, r = .returned (sB p xs c) ∧ St β [rowF IntF 3 p c xs] w' := by
 obtain ⟨va,vc,rfl,vl,vm,ve⟩ := hs.get
 refine enter (n := 8) Tryz.func57 rfl Tryz.ntmps57 rfl ?_ hw
 refine csr (lE oas (lnf (cs2 (c_region (lE oms (lv (v := .bool (va.isNone)) (e_eql_snil (a := va) rfl rfl tt28.ok) (lnf ?_)))))))
 refine c_ifb (va.isNone) rfl (fun hc1 => ?_) (fun hc1 => ?_)
 ·refine csr (lE oas (lnf (c_ret (f_then_ret (ret1 Tryz.results57 rfl ?_)))))
  intro w hw
  obtain rfl := nil_empty ve hc1
  exact ⟨none,0,rfl,(st_mask [] rfl hw).emp (row_nil _ _ _)⟩
 refine csk (csr (l_mv rfl rfl rfl (m_slice0 tt29) ?_))
 rintro _ _ ⟨b2,rfl,rfl⟩
 refine lE oms (l_conseq 0 (r' := rowF IntF 3 (some ⟨b2,0,none⟩) 0 []) rfl (fun a h => pt_row (m := 0) (by decide) rfl a h) ?_)
 refine l_mv rfl rfl rfl (m_appendFlN (F := IntF) 0 tt29 tt31 (p := (some ⟨b2,0,none⟩)) (m := 0) (xs := []) (ys := xs) (ao := va) (k := xs.length) (c := vc) rfl rfl rfl rfl rfl (Knows.of_base (Elems.mono _ _ _) ve) (by first | omega | simp only [List.length_nil,List.length_cons,List.length_append,List.length_set]; omega) (by first | omega | simp only [List.length_nil,List.length_cons,List.length_append,List.length_set]; omega)) ?_
 rintro _ _ ⟨rp3,rc4,rfl,rfl⟩
 refine lE oas (lnf (c_ret (ret1 Tryz.results57 rfl ?_)))
 intro w hw
 exact ⟨_,_,rfl,st_mask (L' := [rowF IntF 3 rp3 rc4 xs]) [true] rfl hw⟩
end Go.Proofs
