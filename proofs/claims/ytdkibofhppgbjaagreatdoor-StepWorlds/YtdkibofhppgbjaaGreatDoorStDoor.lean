/-
  What the laid variable gives the walks. Own work; plain Lean.
-/
import Derived.Test.YtdkibofhppgbjaaGreatDoorRows
import Derived.Test.YtdkibofhppgbjaaGreatDoorStBase
import Derived.ProofKit
import Derived.LaidMore
import Derived.OpenShut
import Derived.Stop.Joined
namespace Go.Proofs.YtdkibofhppgbjaaGreatDoor
open Go Go.Sl Go.Stp
theorem gRooms : Tryz.prog.globalNamed "marches/shape.rooms" = some 0 := by kernel_rfl
theorem tRooms : (Tryz.prog.globals[0]?).map (·.type) = some 301 := by kernel_rfl
theorem cl300 : Tryz.prog.cellsOf 300 = 2 := by kernel_rfl
theorem cl299 : Tryz.prog.cellsOf 299 = 1 := by kernel_rfl
theorem cl301 : Tryz.prog.cellsOf 301 = 4 := by kernel_rfl
/-- The door's own heap meets the condition. -/
theorem door_met (os : Os) (args : Array Value) : laidMetH Tryz.prog [("marches/shape.rooms", Rows.laid_marches_shape_rooms)] ((World.doorLaid Tryz.prog 600 os).forCall (fun _ _ => 0) ⟨#[], args, []⟩).memory :=
  laidMetH_of_parts3 (fuel := 8) (laidMet_of_run' 8 (by kernel_rfl) (by kernel_rfl)) (by kernel_rfl) (by kernel_rfl)
set_option maxRecDepth 100000 in
theorem row_of {W : World} {fuel : Nat} {c d : Value} {x y : UInt8} {r s : List UInt8} {p : List MemPlace} {f g : FuncId}
    (hf : ((List.range Tryz.prog.funcs.size).filter fun f => (Tryz.prog.funcs[f]?).any (·.name.toUTF8.data.toList == x :: r)) = [f]) (hg : ((List.range Tryz.prog.funcs.size).filter fun f => (Tryz.prog.funcs[f]?).any (·.name.toUTF8.data.toList == y :: s)) = [g])
    (h : DataW.trod (funcToken Tryz.prog) Tryz.prog W 0 (fun _ => true) true fuel 300 [c, d] = some (.agg [.held (x :: r), .held (y :: s)], p)) : c = .func (.func f) #[] #[] ∧ d = .func (.func g) #[] #[] := by
  obtain ⟨xs, m, rfl, hx, _, hn, hel⟩ := DataW.trod_array Tryz.underlying300 h
  match xs, hn, hx, hel with
  | [x0, x1], _, hx, hel =>
    have h0 := hel 0 (by decide)
    have h1 := hel 1 (by decide)
    rw [cl299] at h0 h1
    simp only [List.map_cons, List.map_nil, Prod.mk.injEq, DataW.agg.injEq, List.cons.injEq] at hx
    obtain ⟨⟨e0, e1, _⟩, _⟩ := hx
    have k0 : DataW.trod (funcToken Tryz.prog) Tryz.prog W 0 (fun _ => true) true m 299 [c] = some (.held (x :: r), x0.2) := by rw [e0]; exact h0
    have k1 : DataW.trod (funcToken Tryz.prog) Tryz.prog W 0 (fun _ => true) true m 299 [d] = some (.held (y :: s), x1.2) := by rw [e1]; exact h1
    exact ⟨func_of_trod Tryz.underlying299 hf k0, func_of_trod Tryz.underlying299 hg k1⟩
set_option maxRecDepth 100000 in
theorem of_laid {W : World} (h : laidMetH Tryz.prog [("marches/shape.rooms", Rows.laid_marches_shape_rooms)] W) : GR (World.base W) := by
  obtain ⟨g, t, cs, fuel, p, hg, ht, hv, hd⟩ := h.funcs (List.mem_singleton.2 rfl)
  obtain rfl := Option.some.inj (gRooms.symm.trans hg)
  obtain rfl := Option.some.inj (tRooms.symm.trans ht)
  have hc := World.var?_cell hg hv
  obtain ⟨xs, m, rfl, hx, hl, hn, hel⟩ := DataW.trod_array Tryz.underlying301 hd
  rw [cl301] at hl
  obtain ⟨l⟩ := cs
  match l, hl with
  | [c0, c1, c2, c3], _ =>
    match xs, hn, hx, hel with
    | [x0, x1], _, hx, hel =>
      have h0 := hel 0 (by decide)
      have h1 := hel 1 (by decide)
      rw [cl300] at h0 h1
      have hx : (DataW.agg [.agg [.held [109, 97, 114, 99, 104, 101, 115, 47, 115, 104, 97, 112, 101, 46, 98, 111, 120, 101, 115], .held [109, 97, 114, 99, 104, 101, 115, 47, 115, 104, 97, 112, 101, 46, 98, 111, 120, 67, 105, 114, 99, 108, 101]], .agg [.held [109, 97, 114, 99, 104, 101, 115, 47, 115, 104, 97, 112, 101, 46, 99, 105, 114, 99, 108, 101, 66, 111, 120], .held [109, 97, 114, 99, 104, 101, 115, 47, 115, 104, 97, 112, 101, 46, 99, 105, 114, 99, 108, 101, 115]]], p) = (DataW.agg ([x0, x1].map (·.1)), [x0, x1].flatMap (·.2)) := hx
      simp only [List.map_cons, List.map_nil, Prod.mk.injEq, DataW.agg.injEq, List.cons.injEq] at hx
      obtain ⟨⟨e0, e1, _⟩, _⟩ := hx
      have k0 : DataW.trod (funcToken Tryz.prog) Tryz.prog W 0 (fun _ => true) true m 300 [c0, c1] = some (x0.1, x0.2) := h0
      have k1 : DataW.trod (funcToken Tryz.prog) Tryz.prog W 0 (fun _ => true) true m 300 [c2, c3] = some (x1.1, x1.2) := h1
      rw [← e0] at k0
      rw [← e1] at k1
      obtain ⟨rfl, rfl⟩ := row_of (f := 265) (g := 266) (by kernel_rfl) (by kernel_rfl) k0
      obtain ⟨rfl, rfl⟩ := row_of (f := 267) (g := 268) (by kernel_rfl) (by kernel_rfl) k1
      intro j v hj
      have := hc j
      have e : (⟨0, 0, none⟩ : Addr).add j = ⟨0, j, none⟩ := by unfold Addr.add; split <;> simp_all
      rw [e]
      match j with
      | 0 => simp at hj; subst hj; exact (by simpa using this : W.cell? _ = _)
      | 1 => simp at hj; subst hj; exact (by simpa using this : W.cell? _ = _)
      | 2 => simp at hj; subst hj; exact (by simpa using this : W.cell? _ = _)
      | 3 => simp at hj; subst hj; exact (by simpa using this : W.cell? _ = _)
      | j + 4 => simp at hj
end Go.Proofs.YtdkibofhppgbjaaGreatDoor
