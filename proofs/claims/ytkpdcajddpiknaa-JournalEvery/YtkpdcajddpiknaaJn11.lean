/-
 JournalKeeps, walked. Printed by a program of my own.
-/
import Derived.Test.YtkpdcajddpiknaaJn10
namespace Go.Proofs
open Go Go.Sl Go.Jn
theorem isP_ap {C : KC} {I : KI} {b : Bs} (h : isP C I) : isP (⟨C.epoch, C.next + 1, C.state, (C.recs ++ [str b])⟩ : KC) (apI I b) := by
 obtain ⟨h1, h2, h3, h4⟩ := h
 refine ⟨h1, ?_, h3, ?_⟩
 ·show I.next + 1 = C.next + 1; omega
 ·show (I.recs ++ [b]).map str = _; rw [List.map_append, h4]; rfl
theorem isP_ck {C : KC} {I : KI} {b : Bs} (h : isP C I) : isP (⟨C.epoch + 1, C.next, str b, []⟩ : KC) (ckI I b) := by
 obtain ⟨h1, h2, _, _⟩ := h
 exact ⟨by show I.epoch + 1 = C.epoch + 1; omega, h2, rfl, rfl⟩
theorem isP_old_ck {C : KC} {I : KI} {b : Bs} (h : isP C I) : ¬ isP C (ckI I b) := fun q => by
 have h1 := h.1
 have h2 : I.epoch + 1 = C.epoch := q.1
 omega
theorem tf112 : (Try.prog.info? 27).bind (·.zero) = some (.agg #[.int .i64 (0), .int .i64 (0), .string ((⟨#[]⟩ : ByteArray)), .slice none 0 0]) := by kernel_rfl
theorem tf113 : cfB Try.prog 36 = true := by kernel_rfl
theorem tf114 : cfB Try.prog 37 = true := by kernel_rfl
theorem tf115 : cfB Try.prog 38 = true := by kernel_rfl
end Go.Proofs
