/-
  What the laid variable gives the walks. Own work; plain Lean.
-/
import Derived.Test.YtbhkgodiencdlaaDoorRows
import Derived.Test.YtbhkgodiencdlaaDoorStBase
import Derived.ProofKit
import Derived.LaidMore
import Derived.OpenShut
import Derived.Stop.Joined
namespace Go.Proofs.YtbhkgodiencdlaaDoor
open Go Go.Sl Go.Stp
theorem gRooms : Tryd.prog.globalNamed "marches/shape.rooms" = some 0 := by kernel_rfl
theorem tRooms : (Tryd.prog.globals[0]?).map (·.type) = some 136 := by kernel_rfl
theorem cl135 : Tryd.prog.cellsOf 135 = 2 := by kernel_rfl
theorem cl134 : Tryd.prog.cellsOf 134 = 1 := by kernel_rfl
theorem cl136 : Tryd.prog.cellsOf 136 = 4 := by kernel_rfl
/-- The door's own heap meets the condition. -/
theorem door_met (os : Os) (args : Array Value) : laidMetH Tryd.prog [("marches/shape.rooms", Rows.laid_marches_shape_rooms)] ((World.doorLaid Tryd.prog 600 os).forCall (fun _ _ => 0) ⟨#[], args, []⟩).memory :=
  laidMetH_of_parts3 (fuel := 8) (laidMet_of_run' 8 (by kernel_rfl) (by kernel_rfl)) (by kernel_rfl) (by kernel_rfl)
set_option maxRecDepth 100000 in
theorem row_of {W : World} {fuel : Nat} {c d : Value} {x y : UInt8} {r s : List UInt8} {p : List MemPlace} {f g : FuncId}
    (hf : ((List.range Tryd.prog.funcs.size).filter fun f => (Tryd.prog.funcs[f]?).any (·.name.toUTF8.data.toList == x :: r)) = [f]) (hg : ((List.range Tryd.prog.funcs.size).filter fun f => (Tryd.prog.funcs[f]?).any (·.name.toUTF8.data.toList == y :: s)) = [g])
    (h : DataW.trod (funcToken Tryd.prog) Tryd.prog W 0 (fun _ => true) true fuel 135 [c, d] = some (.agg [.held (x :: r), .held (y :: s)], p)) : c = .func (.func f) #[] #[] ∧ d = .func (.func g) #[] #[] := by
  obtain ⟨xs, m, rfl, hx, _, hn, hel⟩ := DataW.trod_array Tryd.underlying135 h
  match xs, hn, hx, hel with
  | [x0, x1], _, hx, hel =>
    have h0 := hel 0 (by decide)
    have h1 := hel 1 (by decide)
    rw [cl134] at h0 h1
    simp only [List.map_cons, List.map_nil, Prod.mk.injEq, DataW.agg.injEq, List.cons.injEq] at hx
    obtain ⟨⟨e0, e1, _⟩, _⟩ := hx
    have k0 : DataW.trod (funcToken Tryd.prog) Tryd.prog W 0 (fun _ => true) true m 134 [c] = some (.held (x :: r), x0.2) := by rw [e0]; exact h0
    have k1 : DataW.trod (funcToken Tryd.prog) Tryd.prog W 0 (fun _ => true) true m 134 [d] = some (.held (y :: s), x1.2) := by rw [e1]; exact h1
    exact ⟨func_of_trod Tryd.underlying134 hf k0, func_of_trod Tryd.underlying134 hg k1⟩
set_option maxRecDepth 100000 in
theorem of_laid {W : World} (h : laidMetH Tryd.prog [("marches/shape.rooms", Rows.laid_marches_shape_rooms)] W) : GR (World.base W) := by
  obtain ⟨g, t, cs, fuel, p, hg, ht, hv, hd⟩ := h.funcs (List.mem_singleton.2 rfl)
  obtain rfl := Option.some.inj (gRooms.symm.trans hg)
  obtain rfl := Option.some.inj (tRooms.symm.trans ht)
  have hc := World.var?_cell hg hv
  obtain ⟨xs, m, rfl, hx, hl, hn, hel⟩ := DataW.trod_array Tryd.underlying136 hd
  rw [cl136] at hl
  obtain ⟨l⟩ := cs
  match l, hl with
  | [c0, c1, c2, c3], _ =>
    match xs, hn, hx, hel with
    | [x0, x1], _, hx, hel =>
      have h0 := hel 0 (by decide)
      have h1 := hel 1 (by decide)
      rw [cl135] at h0 h1
      have hx : (DataW.agg [.agg [.held [109, 97, 114, 99, 104, 101, 115, 47, 115, 104, 97, 112, 101, 46, 98, 111, 120, 101, 115], .held [109, 97, 114, 99, 104, 101, 115, 47, 115, 104, 97, 112, 101, 46, 98, 111, 120, 67, 105, 114, 99, 108, 101]], .agg [.held [109, 97, 114, 99, 104, 101, 115, 47, 115, 104, 97, 112, 101, 46, 99, 105, 114, 99, 108, 101, 66, 111, 120], .held [109, 97, 114, 99, 104, 101, 115, 47, 115, 104, 97, 112, 101, 46, 99, 105, 114, 99, 108, 101, 115]]], p) = (DataW.agg ([x0, x1].map (·.1)), [x0, x1].flatMap (·.2)) := hx
      simp only [List.map_cons, List.map_nil, Prod.mk.injEq, DataW.agg.injEq, List.cons.injEq] at hx
      obtain ⟨⟨e0, e1, _⟩, _⟩ := hx
      have k0 : DataW.trod (funcToken Tryd.prog) Tryd.prog W 0 (fun _ => true) true m 135 [c0, c1] = some (x0.1, x0.2) := h0
      have k1 : DataW.trod (funcToken Tryd.prog) Tryd.prog W 0 (fun _ => true) true m 135 [c2, c3] = some (x1.1, x1.2) := h1
      rw [← e0] at k0
      rw [← e1] at k1
      obtain ⟨rfl, rfl⟩ := row_of (f := 133) (g := 134) (by kernel_rfl) (by kernel_rfl) k0
      obtain ⟨rfl, rfl⟩ := row_of (f := 135) (g := 136) (by kernel_rfl) (by kernel_rfl) k1
      intro j v hj
      have := hc j
      have e : (⟨0, 0, none⟩ : Addr).add j = ⟨0, j, none⟩ := by unfold Addr.add; split <;> simp_all
      rw [e]
      match j with
      | 0 => simp at hj; subst hj; exact (by simpa using this : W.cell? _ = _)
      | 1 => simp at hj; subst hj; exact (by simpa using this : W.cell? _ = _)
      | 2 => simp at hj; subst hj; exact (by simpa using this : W.cell? _ = _)
      | 3 => simp at hj; subst hj; exact (by simpa using this : W.cell? _ = _)
      | j + 4 => simp at hj
end Go.Proofs.YtbhkgodiencdlaaDoor
