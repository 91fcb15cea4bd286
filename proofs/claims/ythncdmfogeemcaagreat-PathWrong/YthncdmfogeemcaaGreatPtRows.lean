/-
  Rows of rows: one is taken out and laid back; rooms' lists of nodes. Own work; plain Lean.
-/
import Derived.Test.YthncdmfogeemcaaGreatPtLaw
import Derived.Test.YthncdmfogeemcaaGreatSlFam
import Derived.Test.YthncdmfogeemcaaGreatSlFlat
namespace Go.Pth
open Go.Sl Go.Brd
section
variable {P : Program} {ro : Option Nat} {n : Nat} {ds : List Deferred} {β : Base} {Q : Exit → Act → World → Prop} {f : Fm} {L : List Res} {ops : Array Oper} {rest : List Oper} {γ : Type} {own : γ → Res}
theorem St.takeG {hs : List γ} {i : Nat} {x : γ} {M : List Res} {w : World} (hx : hs[i]? = some x) (h : St β (Sat (hs.map own) :: M) w) : St β (Sat ((hs.map own).eraseIdx i) :: own x :: M) w := by
  have h1 := h.unbun
  have hi : (hs.map own)[i]? = some (own x) := by rw [List.getElem?_map, hx]; rfl
  have h2 : ((hs.map own) ++ M).Perm ((hs.map own).eraseIdx i ++ (own x :: M)) := by
    refine ((perm_front i hi).append_right M).trans ?_
    rw [List.cons_append]
    exact (List.perm_middle (a := own x) (l₁ := (hs.map own).eraseIdx i) (l₂ := M)).symm
  exact (h1.perm h2).merge fun _ q => q
theorem St.putG {hs : List γ} {i : Nat} {x : γ} {M : List Res} {w : World} (hi : i < hs.length) (h : St β (Sat ((hs.map own).eraseIdx i) :: own x :: M) w) : St β (Sat ((hs.set i x).map own) :: M) w := by
  have h1 := h.unbun
  have hl : ((hs.set i x).map own)[i]? = some (own x) := by rw [List.getElem?_map, List.getElem?_set_self hi]; rfl
  have he : ((hs.set i x).map own).eraseIdx i = (hs.map own).eraseIdx i := by rw [List.map_set, List.eraseIdx_set_eq]
  have h2 : ((hs.map own).eraseIdx i ++ (own x :: M)).Perm ((hs.set i x).map own ++ M) := by
    refine (List.perm_middle (a := own x) (l₁ := (hs.map own).eraseIdx i) (l₂ := M)).trans ?_
    rw [← List.cons_append]
    refine List.Perm.append_right M ?_
    rw [← he]
    exact (perm_front i hl).symm
  exact (h1.perm h2).merge fun _ q => q
theorem St.snocG {hs : List γ} {x : γ} {M : List Res} {w : World} (h : St β (Sat (hs.map own) :: own x :: M) w) : St β (Sat ((hs ++ [x]).map own) :: M) w := by
  have h1 := h.unbun
  refine St.merge (L := (hs ++ [x]).map own) ?_ fun _ q => q
  rw [List.map_append, List.append_assoc]
  exact h1
theorem c_takeG {c : Code} {hs : List γ} {i : Nat} {x : γ} {M : List Res} (hx : hs[i]? = some x) (hL : L = Sat (hs.map own) :: M) (k : RunC P ro n ds β c Q f (Sat ((hs.map own).eraseIdx i) :: own x :: M)) : RunC P ro n ds β c Q f L := fun a w ha hw => by
  subst hL; exact k a w ha (St.takeG hx hw)
theorem c_putG {c : Code} {hs : List γ} {i : Nat} {x : γ} {M : List Res} (hi : i < hs.length) (hL : L = Sat ((hs.map own).eraseIdx i) :: own x :: M) (k : RunC P ro n ds β c Q f (Sat ((hs.set i x).map own) :: M)) : RunC P ro n ds β c Q f L := fun a w ha hw => by
  subst hL; exact k a w ha (St.putG hi hw)
theorem c_snocG {c : Code} {hs : List γ} {x : γ} {M : List Res} (hL : L = Sat (hs.map own) :: own x :: M) (k : RunC P ro n ds β c Q f (Sat ((hs ++ [x]).map own) :: M)) : RunC P ro n ds β c Q f L := fun a w ha hw => by
  subst hL; exact k a w ha (St.snocG hw)
end
theorem empty_rows (n : Nat) (a : PHeap) : Sat ((List.replicate n (⟨none, 0, []⟩ : HV Nat)).map ownH) a := by
  induction n with
  | zero => trivial
  | succ n ih =>
    rw [List.replicate_succ]
    exact ⟨fun _ => none, a, (fun _ => .inl rfl), (fun _ _ h => nomatch h), Sub.refl a, row_nil _ _ _, ih⟩
theorem putR_snoc (R : List (List Nat)) (n : Nat) (rs : List Nat) (r : Nat) : putR R n (rs ++ [r]) = (putR R n rs).set r ((putR R n rs).getD r [] ++ [n]) := by
  unfold putR; rw [List.foldl_append]; rfl
theorem putR_take {R : List (List Nat)} {n k r : Nat} {rs : List Nat} (h : rs[k]? = some r) : putR R n (rs.take (k + 1)) = (putR R n (rs.take k)).set r ((putR R n (rs.take k)).getD r [] ++ [n]) := by
  rw [List.take_add_one, h]; exact putR_snoc _ _ _ _
theorem putR_len (R : List (List Nat)) (n : Nat) (rs : List Nat) : (putR R n rs).length = R.length := by
  induction rs generalizing R with
  | nil => rfl
  | cons r rs ih => show (putR (R.set r _) n rs).length = _; rw [ih, List.length_set]
theorem putR_bd {R : List (List Nat)} {B n : Nat} (h : ∀ x ∈ R, x.length ≤ B) (rs : List Nat) : ∀ x ∈ putR R n rs, x.length ≤ B + rs.length := by
  induction rs generalizing R B with
  | nil => intro x hx; exact Nat.le_trans (h x hx) (by simp)
  | cons r rs ih =>
    intro x hx
    have h2 : ∀ y ∈ R.set r (R.getD r [] ++ [n]), y.length ≤ B + 1 := by
      intro y hy
      rcases List.mem_or_eq_of_mem_set hy with q | q
      · have := h y q; omega
      · rw [q, List.length_append, List.length_singleton, List.getD_eq_getElem?_getD]
        cases hr : R[r]? with
        | none => simp
        | some z => have := h z (List.mem_of_getElem? hr); simp; omega
    have := ih h2 x (show x ∈ putR (R.set r (R.getD r [] ++ [n])) n rs from hx)
    rw [List.length_cons]; omega
/-- heads' lists behind one append -/
theorem put_xs {zs : List (HV Nat)} {R : List (List Nat)} {n k r c : Nat} {rs : List Nat} {x : HV Nat} {p : Option Addr} (hz : zs.map (·.xs) = putR R n (rs.take k)) (hr : rs[k]? = some r) (hx : zs[r]? = some x) :
    (zs.set r ⟨p, c, x.xs ++ [n]⟩).map (·.xs) = putR R n (rs.take (k + 1)) := by
  rw [putR_take hr, ← hz, List.map_set, List.getD_eq_getElem?_getD, List.getElem?_map, hx]; rfl
theorem rowsL_snoc (k : Nat) (ns : List KN) (x : KN) : rowsL k (ns ++ [x]) = putR (rowsL k ns) ns.length x.rs := by
  unfold rowsL
  rw [List.length_append, List.length_singleton, List.range_succ, List.foldl_append]
  show putR _ _ _ = _
  have e : ((ns ++ [x]).map (·.rs)).getD ns.length [] = x.rs := by
    rw [List.getD_eq_getElem?_getD, List.getElem?_map, List.getElem?_append_right (Nat.le_refl _), Nat.sub_self]; rfl
  rw [e]
  congr 1
  have key : ∀ (l : List Nat) (R : List (List Nat)), (∀ n ∈ l, n < ns.length) → l.foldl (fun R n => putR R n (((ns ++ [x]).map (·.rs)).getD n [])) R = l.foldl (fun R n => putR R n ((ns.map (·.rs)).getD n [])) R := by
    intro l
    induction l with
    | nil => intro R _; rfl
    | cons a l ih =>
      intro R h
      rw [List.foldl_cons, List.foldl_cons, ih _ fun n hn => h n (List.mem_cons_of_mem _ hn)]
      have ha := h a List.mem_cons_self
      congr 2
      rw [List.getD_eq_getElem?_getD, List.getD_eq_getElem?_getD, List.getElem?_map, List.getElem?_map, List.getElem?_append_left ha]
  exact key _ _ fun n hn => List.mem_range.1 hn
theorem rowsL_nil (k : Nat) : rowsL k [] = List.replicate k [] := rfl
theorem rowsL_len (k : Nat) (ns : List KN) : (rowsL k ns).length = k := by
  unfold rowsL
  have key : ∀ (l : List Nat) (R : List (List Nat)), (l.foldl (fun R n => putR R n ((ns.map (·.rs)).getD n [])) R).length = R.length := by
    intro l
    induction l with
    | nil => intro R; rfl
    | cons a l ih => intro R; rw [List.foldl_cons, ih, putR_len]
  rw [key, List.length_replicate]
theorem rowsL_bd {k B : Nat} : ∀ {ns : List KN}, (∀ x ∈ ns, x.rs.length ≤ B) → ∀ y ∈ rowsL k ns, y.length ≤ B * ns.length := by
  have key : ∀ m (ns : List KN), ns.length = m → (∀ x ∈ ns, x.rs.length ≤ B) → ∀ y ∈ rowsL k ns, y.length ≤ B * ns.length := by
    intro m
    induction m with
    | zero =>
      intro ns hl _ y hy
      rw [List.eq_nil_of_length_eq_zero hl, rowsL_nil] at hy
      rw [(List.mem_replicate.1 hy).2]; simp
    | succ m ih =>
      intro ns hl h y hy
      have hne : ns ≠ [] := fun q => by rw [q] at hl; cases hl
      have e := List.dropLast_concat_getLast hne
      have h1 := ih ns.dropLast (by rw [List.length_dropLast]; omega) fun x hx => h x (List.dropLast_subset _ hx)
      rw [← e, rowsL_snoc] at hy
      have h2 := putR_bd h1 _ y hy
      have h3 := h _ (List.getLast_mem hne)
      have h4 : ns.dropLast.length + 1 = ns.length := by rw [List.length_dropLast]; omega
      have h5 : B * ns.length = B * ns.dropLast.length + B := by rw [← h4, Nat.mul_add, Nat.mul_one]
      omega
  intro ns h
  exact key _ ns rfl h
theorem roomF_len (l : List KA) (x y : Int) : (roomF l x y).length ≤ l.length := by
  unfold roomF; exact Nat.le_trans (List.length_filter_le _ _) (by rw [List.length_range]; exact Nat.le_refl _)
theorem roomF_lt {l : List KA} {x y : Int} {r : Nat} (h : r ∈ roomF l x y) : r < l.length := List.mem_range.1 (List.mem_filter.1 h).1
theorem roomF_mem {l : List KA} {x y : Int} {r : Nat} : r ∈ roomF l x y ↔ ∃ a, l[r]? = some a ∧ hasP a x y := by
  unfold roomF
  rw [List.mem_filter, List.mem_range]
  constructor
  · rintro ⟨h1, h2⟩
    refine ⟨l[r], List.getElem?_eq_getElem h1, ?_⟩
    rw [List.getD_eq_getElem?_getD, List.getElem?_eq_getElem h1] at h2
    exact of_decide_eq_true h2
  · rintro ⟨a, h1, h2⟩
    refine ⟨(List.getElem?_eq_some_iff.1 h1).1, decide_eq_true ?_⟩
    rw [List.getD_eq_getElem?_getD, h1]; exact h2
/-- a portal's rooms -/
theorem port_two {l : List KA} {o : KO} (h : o ∈ portL l) : ∃ (a b : KA), o.a < o.b ∧ o.b < l.length ∧ l[o.a]? = some a ∧ l[o.b]? = some b ∧ touchA a b ∧ o.x = ((comA a b).lx + (comA a b).hx) / 2 ∧ o.y = ((comA a b).ly + (comA a b).hy) / 2 ∧ ¬ ((comA a b).lx = (comA a b).hx ∧ (comA a b).ly = (comA a b).hy) := by
  obtain ⟨p, hp, h⟩ := List.mem_filterMap.1 h
  obtain ⟨i, k, a, b, h1, h2, h3, h4, rfl, h5⟩ := pairs_two hp
  unfold portO at h
  rw [comP_of h3 h4] at h
  split at h
  · cases h
  · rename_i q
    injection h with h
    subst h
    exact ⟨a, b, by simpa using h1, by simpa using h2, by simpa using h3, by simpa using h4, h5, rfl, rfl, q⟩
def nodeO (o : KO) : KN := ⟨o.x, o.y, [o.a, o.b]⟩
theorem node_next {l : List KO} {k : Nat} {o : KO} (h : l[k]? = some o) : (l.take (k + 1)).map nodeO = (l.take k).map nodeO ++ [nodeO o] := by
  rw [List.take_add_one, h, List.map_append]; rfl
end Go.Pth
