/- Plain laws of ranges: what is left of a range, and whether ranges cover one. No program in sight. -/
import Derived.Test.YtfacimebfdeaeaaD
namespace Go.Proofs.Ytfacimebfdeaeaa

def meetR (a b : Rect) : Rect := ⟨max a.c1 b.c1, max a.r1 b.r1, min a.c2 b.c2, min a.r2 b.r2⟩
def meets (a b : Rect) : Bool := rectOk a && (rectOk b && rectOk (meetR a b))
set_option maxRecDepth 100000 in
theorem has_iff {r : Rect} {x : Ref} : hasB r x = true ↔ r.c1 ≤ x.col ∧ x.col ≤ r.c2 ∧ r.r1 ≤ x.row ∧ x.row ≤ r.r2 := by simp [hasB]
set_option maxRecDepth 100000 in
theorem ok_iff {r : Rect} : rectOk r = true ↔ 1 ≤ r.c1 ∧ r.c1 ≤ r.c2 ∧ r.c2 ≤ 1024 ∧ 1 ≤ r.r1 ∧ r.r1 ≤ r.r2 ∧ r.r2 ≤ 1024 := by simp [rectOk]
end Go.Proofs.Ytfacimebfdeaeaa
