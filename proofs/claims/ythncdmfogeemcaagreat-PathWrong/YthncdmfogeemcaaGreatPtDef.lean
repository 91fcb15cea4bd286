/-
  Marks, portals, nodes, graphs: how they lie; meshes in plain words. Own work; plain Lean.
-/
import Derived.Test.YthncdmfogeemcaaGreatSlFam
import Derived.Test.YthncdmfogeemcaaGreatSlFlat
import Derived.Test.YthncdmfogeemcaaGreatSlApt
import Derived.Test.YthncdmfogeemcaaGreatBrPairs
import Derived.Test.YthncdmfogeemcaaGreatPtWay
import Derived.Test.YthncdmfogeemcaaGreatPtLen
namespace Go.Pth
open Go Go.Sl Go.Brd
abbrev NatF : Fl Nat := ⟨1, fun n => [Nx n], fun _ => rfl, fun _ => rfl, by decide⟩
abbrev MarkF : Fl KM := ⟨3, fun m => [Nx m.node, Nx m.len, Nx m.pts], fun _ => rfl, fun _ => rfl, by decide⟩
/-- a portal -/
structure KO where
  a : Nat
  b : Nat
  x : Int
  y : Int
deriving DecidableEq
abbrev PoF : Fl KO := ⟨4, fun o => [Nx o.a, Nx o.b, Ix o.x, Ix o.y], fun _ => rfl, fun _ => rfl, by decide⟩
/-- a point -/
structure KV where
  x : Int
  y : Int
deriving DecidableEq
abbrev VecF : Fl KV := ⟨2, fun v => [Ix v.x, Ix v.y], fun _ => rfl, fun _ => rfl, by decide⟩
/-- a node as it lies -/
structure HN where
  x : Int
  y : Int
  p : Option Addr
  c : Nat
  rs : List Nat
abbrev NodeF : Fl HN := ⟨3, fun h => [Ix h.x, Ix h.y, .slice h.p h.rs.length h.c], fun _ => rfl, fun _ => rfl, by decide⟩
abbrev HvF : Fl (HV Nat) := ⟨1, fun h => [.slice h.p h.xs.length h.c], fun _ => rfl, fun _ => rfl, by decide⟩
abbrev ownN (h : HN) : Res := rowF NatF 3 h.p h.c h.rs
abbrev ownH (h : HV Nat) : Res := rowF NatF 3 h.p h.c h.xs
/-- a node -/
structure KN where
  x : Int
  y : Int
  rs : List Nat
def HN.k (h : HN) : KN := ⟨h.x, h.y, h.rs⟩
section
variable {α : Type} {F : Fl α}
/-- a row that is told shorter -/
theorem rowF_take {T c k : Nat} {p : Option Addr} {xs : List α} (hk : k ≤ xs.length) {a : PHeap} (h : rowF F T p c xs a) : rowF F T p c (xs.take k) a := by
  obtain ⟨hl, h | ⟨g, cap, cur, e, hg, h1, h2, h3, h4⟩⟩ := h
  · obtain ⟨h, h0⟩ := h
    have : xs = [] := List.eq_nil_of_length_eq_zero h0
    subst this; rw [List.take_nil]; exact ⟨by simp, .inl ⟨h, rfl⟩⟩
  · have hlen : (xs.take k).length = k := by rw [List.length_take]; omega
    injection e with e1 e2 e3
    refine ⟨by rw [fl_len], .inr ⟨g, cap, cur, by rw [e1, e3], hg, by omega, h2, h3, ?_⟩⟩
    rw [hlen, ← fl_take, ← h4, List.take_take]
    congr 1
    exact (Nat.min_eq_left (Nat.mul_le_mul_right _ hk)).symm
end
/-- a graph's two slices are known -/
def GrB (h : PHeap) (v1 v2 : Value) (ns : List KN) (RR : List (List Nat)) : Prop :=
  ∃ (hn : List HN) (hr : List (HV Nat)), hn.map HN.k = ns ∧ hr.map (·.xs) = RR ∧ Sl NodeF.R h v1 hn ∧ Sl HvF.R h v2 hr ∧
    (∀ x ∈ hn, Sl NatF.R h (.slice x.p x.rs.length x.c) x.rs) ∧ (∀ x ∈ hr, Sl NatF.R h (.slice x.p x.xs.length x.c) x.xs)
theorem GrB.mono {h h' : PHeap} {v1 v2 : Value} {ns : List KN} {RR : List (List Nat)} (hs : Sub h h') (g : GrB h v1 v2 ns RR) : GrB h' v1 v2 ns RR := by
  obtain ⟨hn, hr, e1, e2, s1, s2, a1, a2⟩ := g
  exact ⟨hn, hr, e1, e2, Sl.mono _ _ _ _ _ hs s1, Sl.mono _ _ _ _ _ hs s2, fun x hx => Sl.mono _ _ _ _ _ hs (a1 x hx), fun x hx => Sl.mono _ _ _ _ _ hs (a2 x hx)⟩
theorem i64_shr1 (a : Int) : a.fdiv (2 ^ (min (1 : Int).toNat IntKind.i64.bits)) = a / 2 := by
  show a.fdiv (2 ^ 1) = a / 2
  rw [Int.fdiv_eq_ediv_of_nonneg _ (by decide)]; rfl
/-! meshes -/
def flatA (a : KA) : Prop := a.lx = a.hx ∨ a.ly = a.hy
instance (a : KA) : Decidable (flatA a) := inferInstanceAs (Decidable (_ ∨ _))
def gA (l : List KA) (i : Int) : KA := l.getD i.toNat zeroA
def comP (l : List KA) (p : KP) : KA := comA (gA l p.a) (gA l p.b)
def roomOk (a : KA) : Prop := okA a ∧ ¬ flatA a
instance (a : KA) : Decidable (okA a) := inferInstanceAs (Decidable ((_ ∧ _ ∧ _) ∧ (_ ∧ _ ∧ _)))
instance (a : KA) : Decidable (roomOk a) := inferInstanceAs (Decidable (_ ∧ _))
/-- a mesh -/
def okM (l : List KA) : Prop := l.length ≤ 64 ∧ (∀ a ∈ l, roomOk a) ∧ ∀ p ∈ pairsA l, flatA (comP l p)
instance (l : List KA) : Decidable (okM l) := inferInstanceAs (Decidable (_ ∧ _ ∧ _))
def portO (l : List KA) (p : KP) : Option KO :=
  if (comP l p).lx = (comP l p).hx ∧ (comP l p).ly = (comP l p).hy then none
  else some ⟨p.a.toNat, p.b.toNat, ((comP l p).lx + (comP l p).hx) / 2, ((comP l p).ly + (comP l p).hy) / 2⟩
def portL (l : List KA) : List KO := (pairsA l).filterMap (portO l)
def hasP (a : KA) (x y : Int) : Prop := a.lx ≤ x ∧ x ≤ a.hx ∧ a.ly ≤ y ∧ y ≤ a.hy
instance (a : KA) (x y : Int) : Decidable (hasP a x y) := inferInstanceAs (Decidable (_ ∧ _ ∧ _ ∧ _))
/-- the rooms that have a point -/
def roomF (l : List KA) (x y : Int) : List Nat := (List.range l.length).filter fun i => decide (hasP (l.getD i zeroA) x y)
/-- rooms of a graph, a node more -/
def putR (R : List (List Nat)) (n : Nat) (rs : List Nat) : List (List Nat) := rs.foldl (fun R r => R.set r (R.getD r [] ++ [n])) R
/-- nodes and rooms -/
def nodeL (l : List KA) (p q : KV) : List KN := (portL l).map (fun o => (⟨o.x, o.y, [o.a, o.b]⟩ : KN)) ++ [⟨p.x, p.y, roomF l p.x p.y⟩, ⟨q.x, q.y, roomF l q.x q.y⟩]
def rowsL (k : Nat) (ns : List KN) : List (List Nat) := (List.range ns.length).foldl (fun R n => putR R n ((ns.map (·.rs)).getD n [])) (List.replicate k [])
def zN : KN := ⟨0, 0, []⟩
def nAt (ns : List KN) (n : Nat) : KN := ns.getD n zN
/-- the nodes that have a room in common with a node -/
def nrL (ns : List KN) (RR : List (List Nat)) (n : Nat) : List Nat := (nAt ns n).rs.flatMap fun r => (RR.getD r []).filter fun k => decide (k ≠ n)
def wtL (ns : List KN) (n k : Nat) : Nat := lenV (nAt ns n).x (nAt ns n).y (nAt ns k).x (nAt ns k).y
end Go.Pth
