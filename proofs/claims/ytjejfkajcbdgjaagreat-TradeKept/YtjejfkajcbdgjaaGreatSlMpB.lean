/-
  Ranges over maps that are only read: the map lies in the base. Own work; plain Lean.
-/
import Derived.Test.YtjejfkajcbdgjaaGreatSlA
namespace Go.Sl
open Go.ChangeMaps (setBlock)
section
variable {P : Program} {κ ν : Type} (K : MapK P κ ν) {ro : Option Nat} {n : Nat} {ds : List Deferred} {β : Base} {Q : Exit → Act → World → Prop} {f : Fm} {L : List Res} {ops : Array Oper} {rest : List Oper}
variable {d : Option Tmp} {ty : TypeId} {ps : String} {af : Array Edge} {g : Option (Nat × Bool)}
/-- an iterator r that has handed out pre, over a map b of the base -/
def itR (β : Base) (b r : Nat) (ks pre : List (κ × ν)) : Res := fun h => ∃ (es : Array MapEntry) (clock : Nat) (seen : Array Nat) (zs dz rz : List (MapEntry × (κ × ν))),
  β.heap b = some (.map es clock) ∧ h r = some (.mapIter (some b) clock seen clock) ∧ b ≠ r ∧ MapC K ks es clock ∧ es.toList = zs.map (·.1) ∧ ks = zs.map (·.2) ∧ (∀ z ∈ zs, z.1.key = K.enc z.2.1 ∧ z.1.val = K.encv z.2.2) ∧
  (dz ++ rz).Perm zs ∧ seen.toList = dz.map (·.1.born) ∧ pre = dz.map (·.2)
variable {K}
theorem itR.mono (β : Base) (b r : Nat) (ks pre : List (κ × ν)) : Mono (itR K β b r ks pre) := fun _ _ hs ⟨es, c, se, zs, dz, rz, h1, h2, h⟩ => ⟨es, c, se, zs, dz, rz, h1, hs _ _ h2, h⟩
theorem in_base {b : Nat} {o : Obj} {w : World} (hw : St β L w) (h : β.heap b = some o) : w.heap[b]? = some o := hw.knows (Knows.of_base (F := fun h => h b = some o) (fun _ _ s h => s _ _ h) h)
theorem m_rangeB {x : Operand} {t b : Nat} {ks : List (κ × ν)} (ht : t = K.t) (hx : ev f x = .map (some b)) (hm : mpR K b ks β.heap) :
    MV P β L f ⟨d, .range t x, ty, ps, af, g⟩ (fun u L' => ∃ r, u = .pointer (some ⟨r, 0, none⟩) ∧ L' = itR K β b r ks [] :: L) := fun w hw => by
  obtain ⟨es, c, hbβ, hc⟩ := hm
  have hb : w.heap[b]? = some (.map es c) := in_base hw hbβ
  have hg : (getObj b).run P w = .ok (.map es c) w := run_getM hb
  have hlt : b < w.heap.size := (Array.getElem?_eq_some_iff.1 hb).1
  subst ht
  refine ⟨.pointer (some ⟨w.heap.size, 0, none⟩), w.alloc (.mapIter (some b) c #[] c), _, ?_, ?_, w.heap.size, rfl, rfl⟩
  · simp [execOp, Instr.range, run_underlying K.ht, hx, hg]
  · have h3 := hw.new (.mapIter (some b) c #[] c)
    refine St.merge (L := [pt w.heap.size (.mapIter (some b) c #[] c)]) (M := L) h3 fun a ha => ?_
    obtain ⟨p, q, _, hp, hq, h4, _⟩ := ha
    obtain ⟨zs, z1, z2, z3⟩ := hc.zip
    exact ⟨es, c, #[], zs, [], zs, hbβ, hp _ _ h4, by omega, hc, z1, z2, z3, List.Perm.refl _, rfl, rfl⟩
theorem it_next {b r : Nat} {ks pre : List (κ × ν)} {w : World} (i : Nat) (hw : St β L w) (hi : L[i]? = some (itR K β b r ks pre)) (ty : Nat) :
    (pre.Perm ks ∧ (Instr.next (.pointer (some ⟨r, 0, none⟩)) false ty).run P w = .ok (.tuple #[.bool false]) w) ∨
    ∃ x : κ × ν, ∃ w', (Instr.next (.pointer (some ⟨r, 0, none⟩)) false ty).run P w = .ok (.tuple #[.bool true, K.enc x.1, K.encv x.2]) w' ∧ (∃ rs, (pre ++ [x] ++ rs).Perm ks) ∧ St β (L.set i (itR K β b r ks (pre ++ [x]))) w' := by
  obtain ⟨es, c, seen, zs, dz, rz, hbβ, hr, hbr, hc, z1, z2, z3, hperm, hseen, hpre⟩ := hw.knows (Knows.of_res i hi (itR.mono β b r ks pre) fun _ h => h)
  have hb : w.heap[b]? = some (.map es c) := in_base hw hbβ
  have hr : w.heap[r]? = some (.mapIter (some b) c seen c) := hr
  have hborn : (zs.map fun z => z.1.born).Nodup := by
    have := hc.births
    rw [z1, List.map_map] at this
    exact this
  have hnd : ((dz ++ rz).map fun z => z.1.born).Nodup := (hperm.map _).nodup_iff.2 hborn
  rcases run_next_at (P := P) w ty r b c c seen es c hr hb hc.old (Nat.le_refl _) with ⟨h0, hrun⟩ | ⟨e, he, w1, hw1, hrun⟩
  · refine .inl ⟨?_, hrun⟩
    have hrz : rz = [] := by
      cases rz with
      | nil => rfl
      | cons z rz =>
        exfalso
        have hz : z ∈ zs := hperm.mem_iff.1 (List.mem_append_right _ List.mem_cons_self)
        have hze : z.1 ∈ es.toList := by rw [z1]; exact List.mem_map.2 ⟨z, hz, rfl⟩
        have hns : ¬ z.1.born ∈ seen.toList := by
          rw [hseen]
          intro hm
          rw [List.map_append, List.nodup_append] at hnd
          exact hnd.2.2 _ hm _ (List.mem_map.2 ⟨z, List.mem_cons_self, rfl⟩) rfl
        have : z.1 ∈ (leftOf es seen) := by
          unfold leftOf
          rw [Array.mem_filter]
          exact ⟨by simpa using hze, by simpa using hns⟩
        have := Array.size_pos_of_mem this
        omega
    subst hrz
    rw [List.append_nil] at hperm
    rw [hpre, z2]
    exact hperm.map _
  · right
    have he2 : e ∈ es.toList ∧ ¬ e.born ∈ seen.toList := by
      unfold leftOf at he
      simp only [Array.toList_filter, List.mem_filter] at he
      exact ⟨he.1, by simpa using he.2⟩
    have hz : ∃ z ∈ zs, z.1 = e := by
      rw [z1] at he2
      obtain ⟨z, hz, e1⟩ := List.mem_map.1 he2.1
      exact ⟨z, hz, e1⟩
    obtain ⟨z, hz, rfl⟩ := hz
    have hzr : z ∈ rz := by
      rcases List.mem_append.1 (hperm.mem_iff.2 hz) with h | h
      · exfalso; rw [hseen] at he2; exact he2.2 (List.mem_map.2 ⟨z, h, rfl⟩)
      · exact h
    obtain ⟨A, B, rfl⟩ := List.append_of_mem hzr
    have hperm2 : (dz ++ [z] ++ (A ++ B)).Perm zs := by
      refine List.Perm.trans ?_ hperm
      rw [List.append_assoc]
      refine List.Perm.append_left dz ?_
      exact (List.perm_middle (a := z) (l₁ := A) (l₂ := B)).symm
    refine ⟨z.2, setBlock w1 r (.mapIter (some b) c (seen.push z.1.born) c), ?_, ⟨(A ++ B).map (·.2), ?_⟩, ?_⟩
    · rw [hrun, (z3 z hz).1, (z3 z hz).2]
    · rw [hpre, z2]
      have := hperm2.map (·.2)
      simpa using this
    · have hw1' : St β L w1 := by rcases hw1 with rfl | rfl; exact hw; exact hw.drew
      have hr1 : w1.heap[r]? = some (.mapIter (some b) c seen c) := by rcases hw1 with rfl | rfl <;> exact hr
      have hrl : r < w1.heap.size := (Array.getElem?_eq_some_iff.1 hr1).1
      refine St.back i hi ((hw1'.front i hi).turn rfl rfl rfl fun a ha hra => ?_)
      obtain ⟨es', c', seen', _, _, _, k1, k2, _⟩ := hra
      refine ⟨fun k => if k = r then some (.mapIter (some b) c (seen.push z.1.born) c) else a k, ?_, ?_, ?_⟩
      · exact ⟨es, c, seen.push z.1.born, zs, dz ++ [z], A ++ B, hbβ, by simp, hbr, hc, z1, z2, z3, hperm2, by simp [hseen], by simp [hpre]⟩
      · intro k o hk
        show (setBlock w1 r _).heap[k]? = some o
        unfold setBlock
        by_cases e : k = r
        · subst e; simp at hk; subst hk; simp [hrl]
        · simp [e] at hk
          have := ha _ _ hk
          have h9 : w1.heap[k]? = some o := this
          simp [Ne.symm e, h9]
      · intro k hk hak
        have hne : k ≠ r := by rintro rfl; rw [k2] at hak; cases hak
        refine ⟨by simp [hne, hak], ?_⟩
        show (setBlock w1 r _).heap[k]? = _
        unfold setBlock
        simp [Ne.symm hne]
theorem m_nextB {x : Operand} {b r : Nat} {ks pre : List (κ × ν)} (i : Nat) (hx : ev f x = .pointer (some ⟨r, 0, none⟩)) (hi : L[i]? = some (itR K β b r ks pre)) :
    MV P β L f ⟨d, .next x false, ty, ps, af, g⟩ (fun v L' => (v = .tuple #[.bool false] ∧ pre.Perm ks ∧ L' = L) ∨ (∃ x : κ × ν, v = .tuple #[.bool true, K.enc x.1, K.encv x.2] ∧ (∃ rs, (pre ++ [x] ++ rs).Perm ks) ∧ L' = L.set i (itR K β b r ks (pre ++ [x])))) := fun w hw => by
  rcases it_next i hw hi ty with ⟨hp, hrun⟩ | ⟨x, w', hrun, hp, hw'⟩
  · exact ⟨_, w, L, by simp [execOp, hx, hrun], hw, .inl ⟨rfl, hp, rfl⟩⟩
  · exact ⟨_, w', _, by simp [execOp, hx, hrun], hw', .inr ⟨x, rfl, hp, rfl⟩⟩
theorem e_entryB {x : Operand} {b r : Nat} {ks pre : List (κ × ν)} {y : κ × ν} (i : Nat) (hx : ev f x = .pointer (some ⟨r, 0, none⟩)) (hi : L[i]? = some (itR K β b r ks (pre ++ [y]))) :
    EV P β L f ⟨d, .entry x, ty, ps, af, g⟩ (.tuple #[K.enc y.1, K.encv y.2]) := fun w hw => by
  obtain ⟨es, c, seen, zs, dz, rz, hbβ, hr, hbr, hc, z1, z2, z3, hperm, hseen, hpre⟩ := hw.knows (Knows.of_res i hi (itR.mono β b r ks (pre ++ [y])) fun _ h => h)
  have hb : w.heap[b]? = some (.map es c) := in_base hw hbβ
  have hr : w.heap[r]? = some (.mapIter (some b) c seen c) := hr
  have hne : dz ≠ [] := by rintro rfl; simp at hpre
  obtain ⟨dz', z, rfl⟩ : ∃ dz' z, dz = dz' ++ [z] := ⟨dz.dropLast, dz.getLast hne, (List.dropLast_concat_getLast hne).symm⟩
  rw [List.map_append] at hpre hseen
  have hy : y = z.2 := by
    have := congrArg List.getLast? hpre
    simpa using this
  have hz : z ∈ zs := hperm.mem_iff.1 (by simp)
  have hs : seen = (dz'.map (·.1.born)).toArray.push z.1.born := by
    apply Array.toList_inj.1
    simp [hseen]
  subst hs
  have hze : z.1 ∈ es.toList := by rw [z1]; exact List.mem_map.2 ⟨z, hz, rfl⟩
  have hrun := run_entry_at (P := P) w r b c (dz'.map (·.1.born)).toArray es c z.1 hr hb hze hc.births
  rw [hy]
  simp [execOp, hx, hrun, (z3 z hz).1, (z3 z hz).2]
end
end Go.Sl
