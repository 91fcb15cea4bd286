/-
  Law IslandReaches in plain terms. Own work; plain Lean.
-/
import Derived.Test.YtoijanalppaplaaIs8
namespace Go.Isl
open Go.Sl Go.Brd Go.Stp Go.Proofs
theorem part_pos {s : Int} {p : Nat} (hs : 0 ≤ s ∧ s ≤ 4096) (hp : p ≤ 65535) : (0 ≤ s * (p : Int) ∧ s * (p : Int) ≤ 268431360) ∧ 0 ≤ Int.tdiv (s * (p : Int)) 65535 ∧ Int.tdiv (s * (p : Int)) 65535 ≤ s := by
  have h1 : 0 ≤ s * (p : Int) := Int.mul_nonneg hs.1 (by omega)
  have h2 : s * (p : Int) ≤ s * 65535 := Int.mul_le_mul_of_nonneg_left (by omega) hs.1
  rw [Int.tdiv_eq_ediv_of_nonneg h1]
  omega
theorem part_bd {s : Int} {p : Nat} (hs : -4096 ≤ s ∧ s ≤ 4096) (hp : p ≤ 65535) : (-268431360 ≤ s * (p : Int) ∧ s * (p : Int) ≤ 268431360) ∧ min s 0 ≤ Int.tdiv (s * (p : Int)) 65535 ∧ Int.tdiv (s * (p : Int)) 65535 ≤ max s 0 := by
  by_cases h : 0 ≤ s
  · have := part_pos ⟨h, hs.2⟩ hp; omega
  · obtain ⟨t, rfl⟩ : ∃ t, s = -t := ⟨-s, by omega⟩
    have := part_pos (s := t) ⟨by omega, by omega⟩ hp
    rw [Int.neg_mul, Int.neg_tdiv]
    omega
theorem speed_free {b : KB} {gx gy : Int} (hb : okB b) (hv : okV gx gy) (hs : (-128 ≤ b.vx ∧ b.vx ≤ 128) ∧ -128 ≤ b.vy ∧ b.vy ≤ 128) (hx : -31 ≤ gx ∧ gx ≤ 31) (hy : -31 ≤ gy ∧ gy ≤ 31) (hf : b.fixed = false) : speedX b gx gy = b.vx + gx ∧ speedY b gx gy = b.vy + gy := by
  have hn : ¬ (b.fixed = true ∨ ¬ okB b ∨ ¬ okV gx gy) := by
    rintro (h | h | h)
    · rw [hf] at h; exact absurd h (by decide)
    · exact h hb
    · exact h hv
  unfold speedX speedY
  rw [if_neg hn, if_neg hn]
  unfold clampS
  omega
theorem speed_fixed {b : KB} {gx gy : Int} (hf : b.fixed = true) : speedX b gx gy = 0 ∧ speedY b gx gy = 0 := by
  unfold speedX speedY
  exact ⟨if_pos (.inl hf), if_pos (.inl hf)⟩
theorem reach_at {b : KB} {gx gy : Int} (hb : okB b) (hv : okV gx gy) : (reachA b gx gy).lx = b.x - b.w + min (speedX b gx gy) 0 ∧ (reachA b gx gy).ly = b.y - b.h + min (speedY b gx gy) 0 ∧ (reachA b gx gy).hx = b.x + b.w + max (speedX b gx gy) 0 ∧ (reachA b gx gy).hy = b.y + b.h + max (speedY b gx gy) 0 := by
  unfold reachA
  rw [if_pos ⟨hb, hv⟩]
  exact ⟨rfl, rfl, rfl, rfl⟩
/-- a body that is moved -/
def movedB (b : KB) (dx dy : Int) : KB := ⟨b.id, b.x + dx, b.y + dy, b.vx, b.vy, b.w, b.h, b.round, b.fixed⟩
theorem movedB_ok {b : KB} {dx dy : Int} (hb : okB b) (h1 : -1000000 ≤ b.x + dx ∧ b.x + dx ≤ 1000000) (h2 : -1000000 ≤ b.y + dy ∧ b.y + dy ≤ 1000000) : okB (movedB b dx dy) := by
  obtain ⟨a1, a2, a3, a4, a5, a6, a7, a8, a9⟩ := hb
  exact ⟨a1, (by show -1048576 ≤ b.x + dx ∧ b.x + dx ≤ 1048576; omega), (by show -1048576 ≤ b.y + dy ∧ b.y + dy ≤ 1048576; omega), a4, a5, a6, a7, a8, a9⟩
end Go.Isl
