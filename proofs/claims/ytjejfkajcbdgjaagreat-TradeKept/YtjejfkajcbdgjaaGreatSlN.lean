/-
  Lists of resources, brought to their plain form. Own work; plain Lean.
-/
import Derived.Test.YtjejfkajcbdgjaaGreatSlB
import Derived.Test.YtjejfkajcbdgjaaGreatSlFlat
import Derived.Test.YtjejfkajcbdgjaaGreatSlTail
import Derived.Test.YtjejfkajcbdgjaaGreatSlJb
namespace Go.Sl
theorem cut0 {i : Nat} {s : List Nat} {f : Fm} : cut (i :: s) f i = f i := by simp [cut, mem]
theorem cut1 {i a : Nat} {s : List Nat} {f : Fm} : cut (a :: i :: s) f i = f i := by simp [cut, mem]
theorem cut2 {i a b : Nat} {s : List Nat} {f : Fm} : cut (a :: b :: i :: s) f i = f i := by simp [cut, mem]
theorem cut3 {i a b c : Nat} {s : List Nat} {f : Fm} : cut (a :: b :: c :: i :: s) f i = f i := by simp [cut, mem]
theorem lt0 : lastT [] = [] := rfl
theorem lt1 {p : Option Nat} {b s : List Nat} {r : Fm → Res} {l : List Tok} : lastT (⟨p, none, b, s, r⟩ :: l) = ⟨p, none, b, s, r⟩ :: lastT l := rfl
theorem lt2 {p : Option Nat} {c : Nat} {b s : List Nat} {r : Fm → Res} {l : List Tok} : lastT (⟨p, some c, b, s, r⟩ :: l) = lastT l := rfl
theorem rs0 {f : Fm} : rs [] f = [] := rfl
theorem rs1 {p c : Option Nat} {b s : List Nat} {r : Fm → Res} {l : List Tok} {f : Fm} : rs (⟨p, c, b, s, r⟩ :: l) f = r (cut s f) :: rs l f := rfl
theorem mm0 {i : Nat} : mem i [] = false := rfl
theorem mm1 {i : Nat} {l : List Nat} : mem i (i :: l) = true := by simp [mem]
theorem mm2 {i a : Nat} {l : List Nat} (h : i ≠ a) : mem i (a :: l) = mem i l := by simp [mem, h]
theorem us0 {i : Nat} : usesT [] i = [] := rfl
theorem us1 {i : Nat} {p c : Option Nat} {b s : List Nat} {r : Fm → Res} {l : List Tok} (h : mem i b = true) : usesT (⟨p, c, b, s, r⟩ :: l) i = ⟨p, c, b, s, r⟩ :: usesT l i := by unfold usesT; rw [List.filter_cons, if_pos h]
theorem us2 {i : Nat} {p c : Option Nat} {b s : List Nat} {r : Fm → Res} {l : List Tok} (h : mem i b = false) : usesT (⟨p, c, b, s, r⟩ :: l) i = usesT l i := by unfold usesT; rw [List.filter_cons, if_neg (by simp [h])]
abbrev u0 : Option Nat × List Nat := (none, [])
abbrev u1 (b : List Nat) : Option Nat × List Nat := (none, b)
/-- the tokens of what is there at first -/
def tkz : List Res → List (Option Nat × List Nat) → List Tok
  | [], _ => []
  | r :: l, [] => ⟨none, none, [], [], fun _ => r⟩ :: tkz l []
  | r :: l, (c, b) :: u => ⟨none, c, b, [], fun _ => r⟩ :: tkz l u
theorem tz0 {u : List (Option Nat × List Nat)} : tkz [] u = [] := by unfold tkz; rfl
theorem tz1 {r : Res} {l : List Res} : tkz (r :: l) [] = ⟨none, none, [], [], fun _ => r⟩ :: tkz l [] := rfl
theorem tz2 {r : Res} {l : List Res} {c : Option Nat} {b : List Nat} {u : List (Option Nat × List Nat)} : tkz (r :: l) ((c, b) :: u) = ⟨none, c, b, [], fun _ => r⟩ :: tkz l u := rfl
theorem tz_rs (f : Fm) : ∀ (L : List Res) (u : List (Option Nat × List Nat)), rs (firstT (tkz L u)) f = L
  | [], u => by rw [tz0]; rfl
  | r :: l, [] => congrArg (r :: ·) (tz_rs f l [])
  | r :: l, (c, b) :: u => congrArg (r :: ·) (tz_rs f l u)
theorem tz_new {new : List Tok} (h : new.all (fun t => t.prod.isSome) = true) (L : List Res) (u : List (Option Nat × List Nat)) (f : Fm) : L = rs (firstT (tkz L u ++ new)) f ++ [] := by
  have h2 : firstT new = [] := by
    unfold firstT
    rw [List.filter_eq_nil_iff]
    intro t ht
    have := List.all_eq_true.1 h t ht
    cases hp : t.prod with
    | none => rw [hp] at this; cases this
    | some _ => simp
  rw [List.append_nil]
  unfold firstT at h2 ⊢
  rw [List.filter_append, h2, List.append_nil]
  exact (tz_rs f L u).symm
section
variable {P : Program} {ro : Option Nat} {n : Nat} {ds : List Deferred} {β : Base} {Q : Exit → Act → World → Prop} {f g : Fm} {L L' : List Res} {ops : Array Oper} {rest : List Oper}
theorem fre {e : Exit} (k : Fin n ds β Q e f L') (hL : L = L' := by first | (simp only [lt0, lt1, lt2, rs0, rs1, cut0, cut1, cut2, cut3, List.cons_append, List.nil_append, List.append_nil] <;> rfl) | rfl) : Fin n ds β Q e f L := f_re hL k
theorem lre (k : RunL P ro n ds β ops Q rest f L') (hL : L = L' := by first | (simp only [lt0, lt1, lt2, rs0, rs1, cut0, cut1, cut2, cut3, List.cons_append, List.nil_append, List.append_nil] <;> rfl) | rfl) : RunL P ro n ds β ops Q rest f L := l_re hL k
theorem fpn {e : Exit} (ix : List Nat) (m : Nat) (k : Fin n ds β Q e f L') (hL : ix.filterMap (L[·]?) = L' := by simp only [List.set_cons_zero, List.set_cons_succ, List.filterMap_cons, List.filterMap_nil, List.getElem?_cons_zero, List.getElem?_cons_succ] <;> rfl) (hm : L.length = m := by rfl) (h : (List.range m).isPerm ix = true := by kernel_rfl) : Fin n ds β Q e f L := f_perm (perm_ix ix m hm h hL) k
theorem obS (e : g = f) (k : RunL P ro n ds β ops Q rest g L') (hL : L = L' := by first | (simp only [us0, us1, us2, mm0, mm1, mm2, ne_eq, Nat.reduceAdd, Nat.reduceEqDiff, not_false_eq_true, rs0, rs1, cut0, cut1, cut2, cut3, List.cons_append, List.nil_append] <;> rfl) | rfl) : RunL P ro n ds β ops Q rest f L := ob_start hL e k
theorem cnz {id : Nat} {ops : List Oper} {toks : List Tok} (sps : List Sp) (us : List (Option Nat × List Nat)) (new : List Tok) (ini : List (Nat × Value)) (fin : List Nat) (hi : IniAt f ini) (ho : Obs P ro n ds β ops sps toks ini ops 0)
    (hQ : ∀ f', KEv sps f' sps → IAll ini fin f' → Fin n ds β Q .normal f' (rs (lastT toks) f' ++ [])) (hL : L = L' := by first | (simp only [List.set_cons_zero, List.set_cons_succ] <;> rfl) | rfl)
    (hT : tkz L' us ++ new = toks := by simp only [tz0, tz1, tz2, List.cons_append, List.nil_append, List.append_nil] <;> rfl) (hm : P.follows .mixedOrders = true := by kernel_rfl)
    (h1 : chkOps ops sps ini = true := by kernel_rfl) (h2 : toks.all (chkTok ops sps) = true := by kernel_rfl) (hf : fin.all (finOk ops ini) = true := by kernel_rfl) (hn : new.all (fun t => t.prod.isSome) = true := by kernel_rfl) :
    RunC P ro n ds β (.region id ops.toArray true) Q f L := by
  subst hL; subst hT
  exact c_any sps _ ini fin [] hm h1 h2 hf (tz_new hn _ _ _) hi ho hQ
end
end Go.Sl
