/-
 Rows of rows of numbers. Own work; plain Lean.
-/
import Derived.Test.YtoijanalppaplaaGreatBr2
import Derived.Test.YtoijanalppaplaaGreatSlFlat
import Derived.Test.YtoijanalppaplaaGreatSlFam
namespace Go.Isl
open Go.Sl Go.Proofs
/-- a slice of numbers of one's own: where it lies, how far it goes, what it holds -/
structure HI where
 p : Option Addr
 c : Nat
 xs : List Int
instance : Inhabited HI := ⟨⟨none, 0, []⟩⟩
abbrev HdIF : Fl HI := ⟨1, fun h => [.slice h.p h.xs.length h.c], fun _ => rfl, fun _ => rfl, by decide⟩
abbrev ownI (h : HI) : Res := rowF IntF 3 h.p h.c h.xs
abbrev llL (p : Option Addr) (c : Nat) (hs : List HI) : List Res := [rowF HdIF 28 p c hs, Sat (hs.map ownI)]
section
variable {P : Program} {ro : Option Nat} {n : Nat} {ds : List Deferred} {β : Base} {Q : Exit → Act → World → Prop} {f : Fm} {L : List Res} {ops : Array Oper} {rest : List Oper}
theorem St.snocI {hs : List HI} {x : HI} {M : List Res} {w : World} (h : St β (Sat (hs.map ownI) :: ownI x :: M) w) : St β (Sat ((hs ++ [x]).map ownI) :: M) w := by
 have h1 := h.unbun
 refine St.merge (L := (hs ++ [x]).map ownI) ?_ fun _ q => q
 rw [List.map_append, List.append_assoc]
 exact h1
theorem f_snocI {e : Exit} {hs : List HI} {x : HI} {M : List Res} (hL : L = Sat (hs.map ownI) :: ownI x :: M) (k : Fin n ds β Q e f (Sat ((hs ++ [x]).map ownI) :: M)) : Fin n ds β Q e f L := fun a w ha hw => by
 subst hL; exact k a w ha (St.snocI hw)
/-- nothing -/
def empR : Res := fun _ => True
theorem St.takeR {Ls M : List Res} {i : Nat} {r : Res} {w : World} (hi : Ls[i]? = some r) (h : St β (Sat Ls :: M) w) : St β (Sat (Ls.set i empR) :: r :: M) w := by
 have h1 := (h.unbun.perm ((perm_front i hi).append_right M)).emp (r := empR) trivial
 have hs : (Ls.set i empR)[i]? = some empR := by
  have := (List.getElem?_eq_some_iff.1 hi).1
  rw [List.getElem?_set_self this]
 have he : (Ls.set i empR).eraseIdx i = Ls.eraseIdx i := List.eraseIdx_set_eq ..
 have h2 : (empR :: (r :: Ls.eraseIdx i ++ M)).Perm (Ls.set i empR ++ (r :: M)) := by
  have a1 : (Ls.set i empR ++ (r :: M)).Perm ((empR :: Ls.eraseIdx i) ++ (r :: M)) := by
   have := (perm_front i hs).append_right (r :: M)
   rwa [he] at this
  refine List.Perm.trans ?_ a1.symm
  rw [List.cons_append, List.cons_append]
  exact (List.perm_middle (a := r) (l₁ := Ls.eraseIdx i) (l₂ := M)).symm.cons _
 exact (h1.perm h2).merge fun _ q => q
theorem St.putR {Ls M : List Res} {i : Nat} {r : Res} {w : World} (hi : i < Ls.length) (h : St β (Sat Ls :: r :: M) w) : St β (Sat (Ls.set i r) :: M) w := by
 have h0 : Ls[i]? = some Ls[i] := List.getElem?_eq_getElem hi
 have h1 := h.unbun.perm ((perm_front i h0).append_right (r :: M))
 have h2 : St β (Ls.eraseIdx i ++ (r :: M)) w := st_mask [false] rfl h1
 have hs : (Ls.set i r)[i]? = some r := by rw [List.getElem?_set_self hi]
 have he : (Ls.set i r).eraseIdx i = Ls.eraseIdx i := List.eraseIdx_set_eq ..
 have h3 : (Ls.eraseIdx i ++ (r :: M)).Perm (Ls.set i r ++ M) := by
  refine (List.perm_middle (a := r) (l₁ := Ls.eraseIdx i) (l₂ := M)).trans ?_
  rw [← List.cons_append]
  refine List.Perm.append_right M ?_
  rw [← he]
  exact (perm_front i hs).symm
 exact (h2.perm h3).merge fun _ q => q
end
theorem rep_flat {α : Type} {F : Fl α} {x0 : α} {z : Value} (hz : z.cells.toList = F.enc x0) : ∀ c, repL z.cells.toList c = (List.replicate c x0).flatMap F.enc
 | 0 => rfl
 | c + 1 => by
  rw [List.replicate_succ, List.flatMap_cons, ← rep_flat hz c, hz]; rfl
/-- a row that is made with its elements zero -/
theorem m_makeF {α : Type} {F : Fl α} {x0 : α} {P : Program} {β : Base} {L : List Res} {f : Fm} {d : Option Tmp} {ty : TypeId} {ps : String} {af : Array Edge} {g : Option (Nat × Bool)} {x y : Operand} {t e bytes c : Nat} {z : Value} (hsl : slB P t e F.n = true) (hel : elB P e F.n bytes = true) (hz : (P.info? e).bind (·.zero) = some z) (hzc : z.cells.toList = F.enc x0) (hx : ev f x = .int .i64 (c : Int)) (hy : ev f y = .int .i64 (c : Int)) (hc : c ≤ maxLen) (hb : c * bytes ≤ 140737488355328) :
  MV P β L f ⟨d, .makeSlice t x y, ty, ps, af, g⟩ (fun u L' => ∃ b, u = .slice (some ⟨b, 0, none⟩) c c ∧ L' = rowF F e (some ⟨b, 0, none⟩) c (List.replicate c x0) :: L) := fun w hw => by
 have hzn : z.cells.size = F.n := by
  have := congrArg List.length hzc
  rw [F.len] at this; simpa using this
 cases c with
 | zero =>
  obtain ⟨u, w', L', h1, h2, b, rfl, rfl⟩ := m_make00 (P := P) (β := β) (L := L) (f := f) (d := d) (ty := ty) (ps := ps) (af := af) (g := g) (x := x) (y := y) hsl hx hy w hw
  exact ⟨_, w', _, h1, h2.conseq fun a ha => ⟨by simp, .inr ⟨b, 0, #[], rfl, ha, Nat.le_refl _, by unfold maxLen; omega, by simp, by simp⟩⟩, b, rfl, rfl⟩
 | succ c =>
  obtain ⟨u, w', L', h1, h2, b, rfl, rfl⟩ := m_makeN (P := P) (β := β) (L := L) (f := f) (d := d) (ty := ty) (ps := ps) (af := af) (g := g) (x := x) (y := y) hsl hel hz hzn hx hy (Nat.mul_pos (Nat.succ_pos _) F.pos) hc hb w hw
  refine ⟨_, w', _, h1, h2.conseq fun a ha => ?_, b, rfl, rfl⟩
  rw [rep_flat hzc] at ha
  show row (.slice _ (List.replicate (c + 1) x0).length _) _ _ (List.replicate (c + 1) x0).length _ a
  rw [List.length_replicate]; exact ha
/-- rows that lie in the base are read as lists of lists -/
theorem rows_sl {p : Option Addr} {c : Nat} {hs : List HI} {h : PHeap} (hr : Sat (llL p c hs) h) : Sl IntF.R.slice h (.slice p hs.length c) (hs.map (·.xs)) := by
 obtain ⟨a1, s1, r1⟩ := hr.each (rowF HdIF 28 p c hs) (by simp)
 obtain ⟨a2, s2, r2⟩ := hr.each (Sat (hs.map ownI)) (by simp)
 obtain ⟨p', c', e, h1, h2, h3⟩ := (rowF_sl r1).get
 injection e with e1 _ e3
 subst e1; subst e3
 refine ⟨p, c, by rw [List.length_map], by rw [List.length_map]; exact h1, h2, fun j x hx => ?_⟩
 rw [List.getElem?_map] at hx
 cases hj : hs[j]? with
 | none => rw [hj] at hx; cases hx
 | some y =>
  rw [hj] at hx
  injection hx with hx
  subst hx
  obtain ⟨q1, cs, q2, q3⟩ := h3 j y hj
  obtain ⟨a3, s3, r3⟩ := r2.each (ownI y) (List.mem_map.2 ⟨y, List.mem_of_getElem? hj, rfl⟩)
  exact ⟨q1, cs, Cs.mono _ _ _ _ s1 q2, .slice y.p y.xs.length y.c, q3, Sl.mono _ _ _ _ _ (s3.trans s2) (rowF_sl r3)⟩
theorem empty_rows (n : Nat) (a : PHeap) : Sat ((List.replicate n (⟨none, 0, []⟩ : HI)).map ownI) a := by
 induction n with
 | zero => trivial
 | succ n ih =>
  rw [List.replicate_succ]
  exact ⟨fun _ => none, a, (fun _ => .inl rfl), (fun _ _ h => nomatch h), Sub.refl a, row_nil _ _ _, ih⟩
end Go.Isl
