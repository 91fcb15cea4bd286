/-
  Own work; plain Lean (StAll, IsRows, IsDfs).
-/
import Derived.Test.YtdkibofhppgbjaaGreatDoorSt11
import Derived.Test.YtdkibofhppgbjaaGreatDoorSt20
import Derived.Test.YtdkibofhppgbjaaGreatDoorSt7
import Derived.Test.YtdkibofhppgbjaaGreatDoorSt9
import Derived.Test.YtdkibofhppgbjaaGreatDoorSlFn
import Derived.Test.YtdkibofhppgbjaaGreatDoorBr2
import Derived.Test.YtdkibofhppgbjaaGreatDoorSlFlat
import Derived.Test.YtdkibofhppgbjaaGreatDoorSlFam

namespace Go.Isl
open Go.Sl Go.Proofs
/-- a slice of numbers of one's own: where it lies, how far it goes, what it holds -/
structure HI where
  p : Option Addr
  c : Nat
  xs : List Int
instance : Inhabited HI := ⟨⟨none, 0, []⟩⟩
abbrev HdIF : Fl HI := ⟨1, fun h => [.slice h.p h.xs.length h.c], fun _ => rfl, fun _ => rfl, by decide⟩
abbrev ownI (h : HI) : Res := rowF IntF 3 h.p h.c h.xs
abbrev llL (p : Option Addr) (c : Nat) (hs : List HI) : List Res := [rowF HdIF 46 p c hs, Sat (hs.map ownI)]
section
variable {P : Program} {ro : Option Nat} {n : Nat} {ds : List Deferred} {β : Base} {Q : Exit → Act → World → Prop} {f : Fm} {L : List Res} {ops : Array Oper} {rest : List Oper}
theorem St.snocI {hs : List HI} {x : HI} {M : List Res} {w : World} (h : St β (Sat (hs.map ownI) :: ownI x :: M) w) : St β (Sat ((hs ++ [x]).map ownI) :: M) w := by
  have h1 := h.unbun
  refine St.merge (L := (hs ++ [x]).map ownI) ?_ fun _ q => q
  rw [List.map_append, List.append_assoc]
  exact h1
theorem f_snocI {e : Exit} {hs : List HI} {x : HI} {M : List Res} (hL : L = Sat (hs.map ownI) :: ownI x :: M) (k : Fin n ds β Q e f (Sat ((hs ++ [x]).map ownI) :: M)) : Fin n ds β Q e f L := fun a w ha hw => by
  subst hL; exact k a w ha (St.snocI hw)
/-- nothing -/
def empR : Res := fun _ => True
theorem St.takeR {Ls M : List Res} {i : Nat} {r : Res} {w : World} (hi : Ls[i]? = some r) (h : St β (Sat Ls :: M) w) : St β (Sat (Ls.set i empR) :: r :: M) w := by
  have h1 := (h.unbun.perm ((perm_front i hi).append_right M)).emp (r := empR) trivial
  have hs : (Ls.set i empR)[i]? = some empR := by
    have := (List.getElem?_eq_some_iff.1 hi).1
    rw [List.getElem?_set_self this]
  have he : (Ls.set i empR).eraseIdx i = Ls.eraseIdx i := List.eraseIdx_set_eq ..
  have h2 : (empR :: (r :: Ls.eraseIdx i ++ M)).Perm (Ls.set i empR ++ (r :: M)) := by
    have a1 : (Ls.set i empR ++ (r :: M)).Perm ((empR :: Ls.eraseIdx i) ++ (r :: M)) := by
      have := (perm_front i hs).append_right (r :: M)
      rwa [he] at this
    refine List.Perm.trans ?_ a1.symm
    rw [List.cons_append, List.cons_append]
    exact (List.perm_middle (a := r) (l₁ := Ls.eraseIdx i) (l₂ := M)).symm.cons _
  exact (h1.perm h2).merge fun _ q => q
theorem St.putR {Ls M : List Res} {i : Nat} {r : Res} {w : World} (hi : i < Ls.length) (h : St β (Sat Ls :: r :: M) w) : St β (Sat (Ls.set i r) :: M) w := by
  have h0 : Ls[i]? = some Ls[i] := List.getElem?_eq_getElem hi
  have h1 := h.unbun.perm ((perm_front i h0).append_right (r :: M))
  have h2 : St β (Ls.eraseIdx i ++ (r :: M)) w := st_mask [false] rfl h1
  have hs : (Ls.set i r)[i]? = some r := by rw [List.getElem?_set_self hi]
  have he : (Ls.set i r).eraseIdx i = Ls.eraseIdx i := List.eraseIdx_set_eq ..
  have h3 : (Ls.eraseIdx i ++ (r :: M)).Perm (Ls.set i r ++ M) := by
    refine (List.perm_middle (a := r) (l₁ := Ls.eraseIdx i) (l₂ := M)).trans ?_
    rw [← List.cons_append]
    refine List.Perm.append_right M ?_
    rw [← he]
    exact (perm_front i hs).symm
  exact (h2.perm h3).merge fun _ q => q
end
theorem rep_flat {α : Type} {F : Fl α} {x0 : α} {z : Value} (hz : z.cells.toList = F.enc x0) : ∀ c, repL z.cells.toList c = (List.replicate c x0).flatMap F.enc
  | 0 => rfl
  | c + 1 => by
    rw [List.replicate_succ, List.flatMap_cons, ← rep_flat hz c, hz]; rfl
/-- a row that is made with its elements zero -/
theorem m_makeF {α : Type} {F : Fl α} {x0 : α} {P : Program} {β : Base} {L : List Res} {f : Fm} {d : Option Tmp} {ty : TypeId} {ps : String} {af : Array Edge} {g : Option (Nat × Bool)} {x y : Operand} {t e bytes c : Nat} {z : Value} (hsl : slB P t e F.n = true) (hel : elB P e F.n bytes = true) (hz : (P.info? e).bind (·.zero) = some z) (hzc : z.cells.toList = F.enc x0) (hx : ev f x = .int .i64 (c : Int)) (hy : ev f y = .int .i64 (c : Int)) (hc : c ≤ maxLen) (hb : c * bytes ≤ 140737488355328) :
    MV P β L f ⟨d, .makeSlice t x y, ty, ps, af, g⟩ (fun u L' => ∃ b, u = .slice (some ⟨b, 0, none⟩) c c ∧ L' = rowF F e (some ⟨b, 0, none⟩) c (List.replicate c x0) :: L) := fun w hw => by
  have hzn : z.cells.size = F.n := by
    have := congrArg List.length hzc
    rw [F.len] at this; simpa using this
  cases c with
  | zero =>
    obtain ⟨u, w', L', h1, h2, b, rfl, rfl⟩ := m_make00 (P := P) (β := β) (L := L) (f := f) (d := d) (ty := ty) (ps := ps) (af := af) (g := g) (x := x) (y := y) hsl hx hy w hw
    exact ⟨_, w', _, h1, h2.conseq fun a ha => ⟨by simp, .inr ⟨b, 0, #[], rfl, ha, Nat.le_refl _, by unfold maxLen; omega, by simp, by simp⟩⟩, b, rfl, rfl⟩
  | succ c =>
    obtain ⟨u, w', L', h1, h2, b, rfl, rfl⟩ := m_makeN (P := P) (β := β) (L := L) (f := f) (d := d) (ty := ty) (ps := ps) (af := af) (g := g) (x := x) (y := y) hsl hel hz hzn hx hy (Nat.mul_pos (Nat.succ_pos _) F.pos) hc hb w hw
    refine ⟨_, w', _, h1, h2.conseq fun a ha => ?_, b, rfl, rfl⟩
    rw [rep_flat hzc] at ha
    show row (.slice _ (List.replicate (c + 1) x0).length _) _ _ (List.replicate (c + 1) x0).length _ a
    rw [List.length_replicate]; exact ha
/-- rows that lie in the base are read as lists of lists -/
theorem rows_sl {p : Option Addr} {c : Nat} {hs : List HI} {h : PHeap} (hr : Sat (llL p c hs) h) : Sl IntF.R.slice h (.slice p hs.length c) (hs.map (·.xs)) := by
  obtain ⟨a1, s1, r1⟩ := hr.each (rowF HdIF 46 p c hs) (by simp)
  obtain ⟨a2, s2, r2⟩ := hr.each (Sat (hs.map ownI)) (by simp)
  obtain ⟨p', c', e, h1, h2, h3⟩ := (rowF_sl r1).get
  injection e with e1 _ e3
  subst e1; subst e3
  refine ⟨p, c, by rw [List.length_map], by rw [List.length_map]; exact h1, h2, fun j x hx => ?_⟩
  rw [List.getElem?_map] at hx
  cases hj : hs[j]? with
  | none => rw [hj] at hx; cases hx
  | some y =>
    rw [hj] at hx
    injection hx with hx
    subst hx
    obtain ⟨q1, cs, q2, q3⟩ := h3 j y hj
    obtain ⟨a3, s3, r3⟩ := r2.each (ownI y) (List.mem_map.2 ⟨y, List.mem_of_getElem? hj, rfl⟩)
    exact ⟨q1, cs, Cs.mono _ _ _ _ s1 q2, .slice y.p y.xs.length y.c, q3, Sl.mono _ _ _ _ _ (s3.trans s2) (rowF_sl r3)⟩
theorem empty_rows (n : Nat) (a : PHeap) : Sat ((List.replicate n (⟨none, 0, []⟩ : HI)).map ownI) a := by
  induction n with
  | zero => trivial
  | succ n ih =>
    rw [List.replicate_succ]
    exact ⟨fun _ => none, a, (fun _ => .inl rfl), (fun _ _ h => nomatch h), Sub.refl a, row_nil _ _ _, ih⟩
end Go.Isl

namespace Go.Isl
/-- what can be come to by steps of E -/
inductive Conn (E : Nat → Nat → Prop) (i : Nat) : Nat → Prop
  | refl : Conn E i i
  | step {j k : Nat} : Conn E i j → E j k → Conn E i k
theorem Conn.trans {E : Nat → Nat → Prop} {i j k : Nat} (h : Conn E i j) (g : Conn E j k) : Conn E i k := by
  induction g with
  | refl => exact h
  | step _ e ih => exact ih.step e
theorem Conn.one {E : Nat → Nat → Prop} {i j : Nat} (e : E i j) : Conn E i j := Conn.refl.step e
theorem Conn.symm {E : Nat → Nat → Prop} (hs : ∀ i j, E i j → E j i) {i j : Nat} (h : Conn E i j) : Conn E j i := by
  induction h with
  | refl => exact .refl
  | step _ e ih => exact (Conn.one (hs _ _ e)).trans ih
theorem Conn.mono {E F : Nat → Nat → Prop} (h : ∀ i j, E i j → F i j) {i j : Nat} (c : Conn E i j) : Conn F i j := by
  induction c with
  | refl => exact .refl
  | step _ e ih => exact ih.step (h _ _ e)
/-- the visit of the program: ns the neighbours of each, s 1 where one has been -/
def visitF (ns : List (List Nat)) : Nat → List Int → Nat → List Nat × List Int
  | 0, s, _ => ([], s)
  | n + 1, s, i => if 0 < s.getD i 0 then ([], s) else (ns.getD i []).foldl (fun a k => ((a.1 ++ (visitF ns n a.2 k).1), (visitF ns n a.2 k).2)) ([i], s.set i 1)
/-- how many have not been visited -/
def left (s : List Int) : Nat := (s.filter fun x => !decide (0 < x)).length
def seen (s : List Int) (j : Nat) : Prop := 0 < s.getD j 0
instance (s : List Int) (j : Nat) : Decidable (seen s j) := by unfold seen; infer_instance
theorem seen_set {s : List Int} {i j : Nat} (hi : i < s.length) : seen (s.set i 1) j ↔ seen s j ∨ j = i := by
  unfold seen
  rw [List.getD_eq_getElem?_getD, List.getD_eq_getElem?_getD, List.getElem?_set]
  by_cases h : i = j
  · subst h; simp [hi]
  · rw [if_neg h]
    constructor
    · exact .inl
    · rintro (q | q)
      · exact q
      · exact absurd q.symm h
theorem left_set {s : List Int} : ∀ {i : Nat}, i < s.length → ¬ seen s i → left (s.set i 1) + 1 = left s := by
  induction s with
  | nil => intro i h; simp at h
  | cons x s ih =>
    intro i hi hs
    cases i with
    | zero =>
      have : ¬ 0 < x := by simpa [seen] using hs
      simp [left, this]
    | succ i =>
      have h1 := ih (i := i) (by simpa using hi) (by simpa [seen] using hs)
      unfold left at h1 ⊢
      rw [List.set_cons_succ, List.filter_cons, List.filter_cons]
      split <;> simp only [List.length_cons] at * <;> omega
/-- what a visit does: what it adds is new, not twice, connected, and what is next to it has been visited behind it -/
structure VisP (ns : List (List Nat)) (s : List Int) (i : Nat) (r : List Nat × List Int) : Prop where
  len : r.2.length = s.length
  marks : ∀ j, seen r.2 j ↔ seen s j ∨ j ∈ r.1
  new : ∀ j ∈ r.1, ¬ seen s j ∧ j < s.length
  once : r.1.Nodup
  conn : ∀ j ∈ r.1, Conn (fun a b => b ∈ ns.getD a []) i j
  next : ∀ j ∈ r.1, ∀ k ∈ ns.getD j [], seen r.2 k
  own : seen r.2 i
  less : left r.2 ≤ left s
/-- the same of a row of visits from i's neighbours -/
structure RowP (ns : List (List Nat)) (s : List Int) (i : Nat) (done : List Nat) (a : List Nat × List Int) : Prop where
  len : a.2.length = s.length
  marks : ∀ j, seen a.2 j ↔ seen s j ∨ j ∈ a.1
  new : ∀ j ∈ a.1, ¬ seen s j ∧ j < s.length
  once : a.1.Nodup
  conn : ∀ j ∈ a.1, Conn (fun x y => y ∈ ns.getD x []) i j
  next : ∀ j ∈ a.1, j = i ∨ ∀ k ∈ ns.getD j [], seen a.2 k
  got : ∀ k ∈ done, seen a.2 k
  own : i ∈ a.1
  less : left a.2 + 1 ≤ left s
theorem RowP.start {ns : List (List Nat)} {s : List Int} {i : Nat} (hi : i < s.length) (hn : ¬ seen s i) : RowP ns s i [] ([i], s.set i 1) where
  len := by simp
  marks := fun j => by rw [seen_set hi]; simp
  new := fun j hj => by rw [List.mem_singleton.1 hj]; exact ⟨hn, hi⟩
  once := by simp
  conn := fun j hj => by rw [List.mem_singleton.1 hj]; exact .refl
  next := fun j hj => .inl (List.mem_singleton.1 hj)
  got := fun k hk => by simp at hk
  own := by simp
  less := by have := left_set hi hn; show left (s.set i 1) + 1 ≤ _; omega
theorem RowP.step {ns : List (List Nat)} {s : List Int} {i k : Nat} {done : List Nat} {a r : List Nat × List Int} (h : RowP ns s i done a) (hk : k ∈ ns.getD i []) (hr : VisP ns a.2 k r) : RowP ns s i (done ++ [k]) (a.1 ++ r.1, r.2) where
  len := hr.len.trans h.len
  marks := fun j => by rw [hr.marks, h.marks, List.mem_append, or_assoc]
  new := fun j hj => by
    rcases List.mem_append.1 hj with hj | hj
    · exact h.new j hj
    · have := hr.new j hj
      exact ⟨fun q => this.1 ((h.marks j).2 (.inl q)), by rw [← h.len]; exact this.2⟩
  once := by
    rw [List.nodup_append]
    refine ⟨h.once, hr.once, ?_⟩
    rintro x hx _ hy rfl
    exact (hr.new x hy).1 ((h.marks x).2 (.inr hx))
  conn := fun j hj => by
    rcases List.mem_append.1 hj with hj | hj
    · exact h.conn j hj
    · exact (Conn.one (E := fun x y => y ∈ ns.getD x []) hk).trans (hr.conn j hj)
  next := fun j hj => by
    rcases List.mem_append.1 hj with hj | hj
    · exact (h.next j hj).imp_right fun q x hx => (hr.marks x).2 (.inl (q x hx))
    · exact .inr (hr.next j hj)
  got := fun x hx => by
    rcases List.mem_append.1 hx with hx | hx
    · exact (hr.marks x).2 (.inl (h.got x hx))
    · rw [List.mem_singleton.1 hx]; exact hr.own
  own := List.mem_append_left _ h.own
  less := by have h1 := hr.less; have h2 := h.less; show left r.2 + 1 ≤ left s; omega
theorem RowP.done {ns : List (List Nat)} {s : List Int} {i : Nat} {a : List Nat × List Int} (h : RowP ns s i (ns.getD i []) a) : VisP ns s i a where
  len := h.len
  marks := h.marks
  new := h.new
  once := h.once
  conn := h.conn
  next := fun j hj => (h.next j hj).elim (fun e => by rw [e]; exact h.got) id
  own := (h.marks i).2 (.inr h.own)
  less := by have := h.less; omega
theorem VisP.none {ns : List (List Nat)} {s : List Int} {i : Nat} (h : seen s i) : VisP ns s i ([], s) where
  len := rfl
  marks := fun j => by simp
  new := fun j hj => by simp at hj
  once := List.nodup_nil
  conn := fun j hj => by simp at hj
  next := fun j hj => by simp at hj
  own := h
  less := Nat.le_refl _
/-- neighbours are indices -/
def inR (ns : List (List Nat)) (n : Nat) : Prop := ∀ i, ∀ k ∈ ns.getD i [], k < n
theorem visit_spec {ns : List (List Nat)} (n : Nat) : ∀ (s : List Int) (i : Nat), inR ns s.length → i < s.length → left s ≤ n → VisP ns s i (visitF ns (n + 1) s i) := by
  induction n with
  | zero =>
    intro s i hin hi hl
    have hs : seen s i := Decidable.byContradiction fun h => by
      have := left_set hi h
      omega
    unfold visitF
    rw [if_pos (show 0 < s.getD i 0 from hs)]; exact VisP.none hs
  | succ n ihn =>
    intro s i hin hi hl
    unfold visitF
    by_cases h : 0 < s.getD i 0
    · rw [if_pos h]; exact VisP.none h
    · rw [if_neg h]
      have key : ∀ (l done : List Nat) (a : List Nat × List Int), RowP ns s i done a → (∀ k ∈ l, k ∈ ns.getD i []) → RowP ns s i (done ++ l) (l.foldl (fun a k => ((a.1 ++ (visitF ns (n + 1) a.2 k).1), (visitF ns (n + 1) a.2 k).2)) a) := by
        intro l
        induction l with
        | nil => intro done a ha _; simpa using ha
        | cons k l ih =>
          intro done a ha hk
          have hkn := hk k List.mem_cons_self
          have h1 := ha.less
          have hv := ihn a.2 k (by rw [ha.len]; exact hin) (by rw [ha.len]; exact hin i k hkn) (by omega)
          have := ih (done ++ [k]) _ (ha.step hkn hv) (fun x hx => hk x (List.mem_cons_of_mem _ hx))
          rw [List.append_assoc] at this
          exact this
      have := key (ns.getD i []) [] _ (RowP.start hi h) (fun k hk => hk)
      rw [List.nil_append] at this
      exact this.done
/-! all classes -/
/-- the loop over all: what has been visited, and the classes that were found -/
def islF (ns : List (List Nat)) (n : Nat) : Nat → List Int × List (List Nat)
  | 0 => (List.replicate n 0, [])
  | i + 1 => let p := islF ns n i; let r := visitF ns (n + 1) p.1 i; (r.2, if r.1 = [] then p.2 else p.2 ++ [r.1])
structure IslP (ns : List (List Nat)) (n i : Nat) (p : List Int × List (List Nat)) : Prop where
  len : p.1.length = n
  marks : ∀ j, seen p.1 j ↔ ∃ l ∈ p.2, j ∈ l
  all : ∀ j, j < i → seen p.1 j
  closed : ∀ j, seen p.1 j → ∀ k ∈ ns.getD j [], seen p.1 k
theorem seen_rep (n j : Nat) : ¬ seen (List.replicate n 0) j := by
  unfold seen
  rw [List.getD_eq_getElem?_getD, List.getElem?_replicate]
  split <;> simp
theorem left_le (s : List Int) : left s ≤ s.length := List.length_filter_le _ _
theorem isl_spec {ns : List (List Nat)} {n : Nat} (hin : inR ns n) : ∀ i, i ≤ n → IslP ns n i (islF ns n i)
  | 0, _ => ⟨by simp [islF], fun j => by simp [islF, seen_rep], fun j h => by omega, fun j h => absurd h (seen_rep n j)⟩
  | i + 1, h => by
    have ih := isl_spec hin i (by omega)
    have hv := visit_spec n (islF ns n i).1 i (by rw [ih.len]; exact hin) (by rw [ih.len]; omega) (by have := left_le (islF ns n i).1; rw [ih.len] at this; exact this)
    show IslP ns n (i + 1) ((visitF ns (n + 1) (islF ns n i).1 i).2, if (visitF ns (n + 1) (islF ns n i).1 i).1 = [] then (islF ns n i).2 else (islF ns n i).2 ++ [(visitF ns (n + 1) (islF ns n i).1 i).1])
    generalize visitF ns (n + 1) (islF ns n i).1 i = r at hv
    refine ⟨hv.len.trans ih.len, fun j => ?_, fun j hj => ?_, fun j hj k hk => ?_⟩
    · show seen r.2 j ↔ _
      rw [hv.marks, ih.marks]
      by_cases hr : r.1 = []
      · simp [hr]
      · rw [if_neg hr]; simp only [List.mem_append, List.mem_singleton]
        constructor
        · rintro (⟨l, h1, h2⟩ | h1)
          · exact ⟨l, .inl h1, h2⟩
          · exact ⟨r.1, .inr rfl, h1⟩
        · rintro ⟨l, h1 | h1, h2⟩
          · exact .inl ⟨l, h1, h2⟩
          · exact .inr (h1 ▸ h2)
    · show seen r.2 j
      by_cases hji : j = i
      · rw [hji]; exact hv.own
      · exact (hv.marks j).2 (.inl (ih.all j (by omega)))
    · show seen r.2 k
      have hj : seen r.2 j := hj
      rcases (hv.marks j).1 hj with q | q
      · exact (hv.marks k).2 (.inl (ih.closed j q k hk))
      · exact hv.next j q k hk
open Classical in
/-- the class of i, in order -/
noncomputable def classOf (E : Nat → Nat → Prop) (n i : Nat) : List Nat := (List.range n).filter fun j => decide (Conn E i j)
open Classical in
/-- the first of each class -/
noncomputable def firsts (E : Nat → Nat → Prop) (n i : Nat) : List Nat := (List.range i).filter fun j => decide (∀ k, k < j → ¬ Conn E k j)
/-- the classes by their first ones, each in order -/
noncomputable def classes (E : Nat → Nat → Prop) (n : Nat) : List (List Nat) := (firsts E n n).map (classOf E n)
theorem class_mem {E : Nat → Nat → Prop} {n i j : Nat} : j ∈ classOf E n i ↔ j < n ∧ Conn E i j := by
  classical
  unfold classOf; rw [List.mem_filter, List.mem_range, decide_eq_true_eq]
theorem class_nodup (E : Nat → Nat → Prop) (n i : Nat) : (classOf E n i).Nodup := List.nodup_range.sublist List.filter_sublist
theorem class_sorted (E : Nat → Nat → Prop) (n i : Nat) : (classOf E n i).Pairwise (· < ·) := List.pairwise_lt_range.filter _
inductive All2 {α β : Type} (R : α → β → Prop) : List α → List β → Prop
  | nil : All2 R [] []
  | cons {a : α} {b : β} {l : List α} {m : List β} : R a b → All2 R l m → All2 R (a :: l) (b :: m)
/-- what the loop finds are the classes, each in some order -/
theorem isl_classes {ns : List (List Nat)} {n : Nat} (hin : inR ns n) {E : Nat → Nat → Prop} (hE : ∀ i j, E i j ↔ j ∈ ns.getD i []) (hs : ∀ i j, E i j → E j i) : ∀ i, i ≤ n →
    All2 List.Perm (islF ns n i).2 ((firsts E n i).map (classOf E n))
  | 0, _ => .nil
  | i + 1, h => by
    classical
    have ih := isl_classes hin hE hs i (by omega)
    have hp := isl_spec hin i (by omega)
    have hv := visit_spec n (islF ns n i).1 i (by rw [hp.len]; exact hin) (by rw [hp.len]; omega) (by have := left_le (islF ns n i).1; rw [hp.len] at this; exact this)
    have hEE : (fun a b => b ∈ ns.getD a []) = E := funext fun a => funext fun b => propext (hE a b).symm
    have closed : ∀ a b, Conn E a b → seen (islF ns n i).1 a → seen (islF ns n i).1 b := by
      intro a b hab
      induction hab with
      | refl => exact id
      | step _ e ih => exact fun q => hp.closed _ (ih q) _ ((hE _ _).1 e)
    have hf : firsts E n (i + 1) = firsts E n i ++ if seen (islF ns n i).1 i then [] else [i] := by
      unfold firsts
      rw [List.range_succ, List.filter_append]
      congr 1
      have hiff : (∀ k, k < i → ¬ Conn E k i) ↔ ¬ seen (islF ns n i).1 i := by
        constructor
        · intro hno hsn
          have key : ∀ j, j ≤ i → ∀ q, seen (islF ns n j).1 q → ∃ k, k < j ∧ Conn E k q := by
            intro j
            induction j with
            | zero => intro _ q hq; exact absurd hq (seen_rep n q)
            | succ j ihj =>
              intro hj q hq
              have hpj := isl_spec hin j (by omega)
              have hvj := visit_spec n (islF ns n j).1 j (by rw [hpj.len]; exact hin) (by rw [hpj.len]; omega) (by have := left_le (islF ns n j).1; rw [hpj.len] at this; exact this)
              have hq : seen (visitF ns (n + 1) (islF ns n j).1 j).2 q := hq
              rcases (hvj.marks q).1 hq with hq | hq
              · obtain ⟨k, h1, h2⟩ := ihj (by omega) q hq
                exact ⟨k, by omega, h2⟩
              · have := hvj.conn q hq
                rw [hEE] at this
                exact ⟨j, by omega, this⟩
          obtain ⟨k, h1, h2⟩ := key i (Nat.le_refl _) i hsn
          exact hno k h1 h2
        · intro hno k hk hc
          exact hno (closed k i hc (hp.all k hk))
      by_cases hsn : seen (islF ns n i).1 i
      · rw [if_pos hsn]
        simp only [List.filter_cons, List.filter_nil]
        rw [if_neg]
        rw [decide_eq_true_eq, hiff]
        exact fun q => q hsn
      · rw [if_neg hsn]
        simp only [List.filter_cons, List.filter_nil]
        rw [if_pos]
        rw [decide_eq_true_eq, hiff]
        exact hsn
    rw [hf]
    show All2 List.Perm (if (visitF ns (n + 1) (islF ns n i).1 i).1 = [] then (islF ns n i).2 else (islF ns n i).2 ++ [(visitF ns (n + 1) (islF ns n i).1 i).1]) _
    by_cases hsn : seen (islF ns n i).1 i
    · have hr : (visitF ns (n + 1) (islF ns n i).1 i).1 = [] := by
        unfold visitF
        rw [if_pos (show 0 < (islF ns n i).1.getD i 0 from hsn)]
      rw [if_pos hr, if_pos hsn, List.append_nil]
      exact ih
    · have hin2 : i ∈ (visitF ns (n + 1) (islF ns n i).1 i).1 := ((hv.marks i).1 hv.own).resolve_left hsn
      rw [if_neg (fun q => by rw [q] at hin2; simp at hin2), if_neg hsn, List.map_append]
      have happ : ∀ {l1 l2 : List (List Nat)} {x y : List Nat}, All2 List.Perm l1 l2 → x.Perm y → All2 List.Perm (l1 ++ [x]) (l2 ++ [y]) := by
        intro l1 l2 x y h1 h2
        induction h1 with
        | nil => exact .cons h2 .nil
        | cons a _ ih => exact .cons a ih
      refine happ ih ?_
      refine (List.perm_ext_iff_of_nodup hv.once (class_nodup E n i)).2 fun j => ?_
      rw [class_mem]
      constructor
      · intro hj
        have h1 := hv.conn j hj
        rw [hEE] at h1
        exact ⟨by have := (hv.new j hj).2; rw [hp.len] at this; exact this, h1⟩
      · rintro ⟨hjn, hc⟩
        have : ∀ b, Conn E i b → b ∈ (visitF ns (n + 1) (islF ns n i).1 i).1 := by
          intro b hb
          induction hb with
          | refl => exact hin2
          | step hb e ihb =>
            have h1 := hv.next _ ihb _ ((hE _ _).1 e)
            rcases (hv.marks _).1 h1 with q | q
            · exact absurd (closed _ _ ((hb.step e).symm hs) q) hsn
            · exact q
        exact this j hc
end Go.Isl
