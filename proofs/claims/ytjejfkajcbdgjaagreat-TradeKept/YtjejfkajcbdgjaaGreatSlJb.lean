/-
  Operations on rows of bytes and of texts. Own work; plain Lean.
-/
import Derived.Test.YtjejfkajcbdgjaaGreatSlFlat
import Derived.Laws.BytesArg
namespace Go.Sl
open Go.RowKit
section
variable {P : Program} {ro : Option Nat} {n : Nat} {ds : List Deferred} {β : Base} {Q : Exit → Act → World → Prop} {f : Fm} {L : List Res} {ops : Array Oper} {rest : List Oper}
variable {d : Option Tmp} {ty : TypeId} {ps : String} {af : Array Edge} {g : Option (Nat × Bool)}

/-- the parts of a slice, the block that a closure holds -/
def sla : Value → Option Addr | .slice a _ _ => a | _ => none
def slc : Value → Nat | .slice _ _ c => c | _ => 0
theorem l_re {L' : List Res} (hL : L = L') (k : RunL P ro n ds β ops Q rest f L') : RunL P ro n ds β ops Q rest f L := by subst hL; exact k
theorem c_re {c : Code} {L' : List Res} (hL : L = L') (k : RunC P ro n ds β c Q f L') : RunC P ro n ds β c Q f L := by subst hL; exact k
theorem l_perm {L' : List Res} (hp : L.Perm L') (k : RunL P ro n ds β ops Q rest f L') : RunL P ro n ds β ops Q rest f L := fun a w ha hw => k a w ha (hw.perm hp)

theorem map_at {α : Type} {enc : α → Value} {xs : List α} {k : Nat} {x : α} (h : xs[k]? = some x) : ((xs.map enc).drop (k * 1)).take [enc x].length = [enc x] := by
  have hlt := (List.getElem?_eq_some_iff.1 h).1
  have hx := (List.getElem?_eq_some_iff.1 h).2
  rw [Nat.mul_one, List.drop_eq_getElem_cons (by simpa using hlt)]
  simp [hx]
abbrev encR {α : Type} (enc : α → Value) : Rp α := Rp.flat 1 (fun x => [enc x]) (fun _ => rfl)
theorem k_ptE {α : Type} {enc : α → Value} {b T : Nat} {fr : Nat × Nat} {xs : List α} (i : Nat) (hi : L[i]? = some (pt b (.cells (xs.map enc).toArray T fr))) : Knows β L (fun h => Elems (encR enc) h (some ⟨b, 0, none⟩) xs) :=
  Knows.of_res i hi (Elems.mono _ _ _) fun a h j x hx => by
    refine ⟨rfl, [enc x], ?_, rfl⟩
    have e : (ba (some ⟨b, 0, none⟩)).add (j * (encR enc).n) = ⟨b, j, none⟩ := by
      show (⟨b, 0, none⟩ : Addr).add (j * 1) = _
      rw [Nat.mul_one]
      unfold Addr.add; split <;> simp_all
    rw [e]
    refine Cs.of_pt h ?_
    have := map_at (enc := enc) hx
    rw [Nat.mul_one] at this
    simpa using this

theorem all_one {α : Type} {enc : α → Value} (h1 : ∀ x, (enc x).oneCell' = true) (xs : List α) : (xs.map enc).all (·.oneCell') = true := by
  induction xs with
  | nil => rfl
  | cons a l ih => simp only [List.map_cons, List.all_cons, Bool.and_eq_true]; exact ⟨h1 a, ih⟩

theorem m_appendE {α : Type} {enc : α → Value} {x y : Operand} {t e bytes m k c : Nat} {v : Value} {xs ys : List α} {ao : Option Addr} (i : Nat) (h1 : ∀ x, (enc x).oneCell' = true) (hsl : slB P t e 1 = true) (hel : elB P e 1 bytes = true) (hx : ev f x = v) (hi : L[i]? = some (row v e 1 m (xs.map enc)))
    (hm : xs.length = m) (hy : ev f y = .slice ao k c) (hl : ys.length = k) (hk : Knows β L (fun h => Elems (encR enc) h ao ys)) (hby : (m + k) * bytes ≤ 140737488355328) (h63 : m + k ≤ 140737488355328) :
    MV P β L f ⟨d, .call ⟨.builtin .append, #[x, y], #[t, t]⟩, ty, ps, af, g⟩ (fun v' L' => ∃ p c, v' = .slice p (xs ++ ys).length c ∧ L' = L.set i (row (.slice p (xs ++ ys).length c) e 1 (xs ++ ys).length ((xs ++ ys).map enc))) := fun w hw => by
  have hkk := hw.knows hk
  have hcs : Knows β L (fun h => Cs h (ba ao) (ys.map enc)) := fun h hb hr => elems_cells (hk h hb hr)
  obtain ⟨v', w', L', g1, g2, p, c', rfl, rfl⟩ := m_append_w (P := P) (ty := ty) (ps := ps) (af := af) (g := g) (d := d) i hsl hel hx hi hy (by simp [hl]) hcs (all_one h1 ys) (fun h => elems_some hkk (by omega)) (by unfold maxLen; omega) hby w hw
  have e1 : (xs ++ ys).length = m + k := by simp [hm, hl]
  rw [e1]
  exact ⟨_, w', _, g1, g2, p, c', rfl, by rw [List.map_append]⟩
/-- of bytes, texts, and of one value -/
theorem bx_cell (x : UInt8) : (Bx x).oneCell' = true := rfl
def ifcB (P : Program) (t : TypeId) : Bool := match P.underlying t with | some (.interface _) => false | some _ => true | none => false
theorem e_iface {t : TypeId} {x : Operand} {v : Value} (ht : ifcB P t = true) (hx : ev f x = v) : EV P β L f ⟨d, .makeInterface t x, ty, ps, af, g⟩ (.iface t v) := fun w _ => by
  unfold ifcB at ht
  cases hu : P.underlying t with
  | none => rw [hu] at ht; cases ht
  | some dd =>
    rw [hu] at ht
    cases dd <;> simp_all [execOp, Instr.makeInterface, run_underlying hu]
theorem e_bytesStr {x : Operand} {t1 t2 e m c : Nat} {a : Option Addr} {bs : Bs} (hx : ev f x = .slice a m c) (hl : bs.length = m) (h1 : P.underlying t1 = some (.slice e)) (he : P.underlying e = some (.int .u8)) (h2 : P.underlying t2 = some .string)
    (hk : Knows β L (fun h => Elems U8R h a bs)) : EV P β L f ⟨d, .convert t1 t2 x, ty, ps, af, g⟩ (.string (str bs)) := fun w hw => by
  subst hl
  have hkk := hw.knows hk
  cases a with
  | none =>
    have hz : bs = [] := by
      cases bs with
      | nil => rfl
      | cons b l => have := elems_some hkk (by simp); cases this
    subst hz
    simp [execOp, hx, convert, run_underlying h1, run_underlying h2, run_underlying he]
    rfl
  | some ad =>
    have hc : Cs (ph w) ad (BX bs) := elems_cs hkk
    have hr := run_convert_bytes_back (P := P) w t1 t2 e ad c bs h1 he h2 fun j hj => hc j _ (by simp [hj])
    simp [execOp, hx, hr]
theorem repL_bx : ∀ c, repL [Value.int .u8 0] c = BX (List.replicate c 0)
  | 0 => rfl
  | c + 1 => by unfold repL; rw [repL_bx c]; rfl
theorem m_makeB {x y : Operand} {t e c : Nat} (hsl : slB P t e 1 = true) (hel : elB P e 1 1 = true) (hz : (P.info? e).bind (·.zero) = some (.int .u8 0)) (hx : ev f x = .int .i64 (c : Int)) (hy : ev f y = .int .i64 (c : Int)) (h0 : 0 < c) (hc : c ≤ 140737488355328) :
    MV P β L f ⟨d, .makeSlice t x y, ty, ps, af, g⟩ (fun u L' => ∃ b, u = .slice (some ⟨b, 0, none⟩) (List.replicate c (0 : UInt8)).length c ∧ L' = row (.slice (some ⟨b, 0, none⟩) (List.replicate c (0 : UInt8)).length c) e 1 (List.replicate c (0 : UInt8)).length (BX (List.replicate c 0)) :: L) := fun w hw => by
  obtain ⟨v, w', L', h1, h2, b, rfl, rfl⟩ := m_makeN (P := P) (ty := ty) (ps := ps) (af := af) (g := g) (d := d) hsl hel hz rfl hx hy (by omega) (by unfold maxLen; omega) (by omega) w hw
  have e1 : (List.replicate c (0 : UInt8)).length = c := by simp
  rw [e1]
  have e2 : repL (Value.int .u8 0).cells.toList c = BX (List.replicate c 0) := repL_bx c
  rw [e2] at h2
  exact ⟨_, w', _, h1, h2, b, rfl, rfl⟩
end
end Go.Sl
