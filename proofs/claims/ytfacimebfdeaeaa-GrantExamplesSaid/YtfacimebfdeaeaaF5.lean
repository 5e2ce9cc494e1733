/- The walks of the last rule, of Which and At, of the rules' copies. -/
import Derived.Test.YtfacimebfdeaeaaF4
namespace Go.Proofs.Ytfacimebfdeaeaa
open Pv Go.RowKit

def rules3 : List Rule := [⟨sheetR, ⟨7, 7, 1⟩⟩, ⟨⟨2, 1, 2, 3⟩, ⟨1, 1, 1⟩⟩, ⟨⟨2, 2, 3, 2⟩, ⟨2, 0, 1⟩⟩]
set_option maxRecDepth 100000 in
theorem rules3_ok : ∀ r ∈ rules3, r.ok := by
  intro r hr
  simp only [rules3, sheetR, List.mem_cons, List.not_mem_nil, or_false] at hr
  rcases hr with rfl | rfl | rfl <;> (refine ⟨⟨?_, ?_, ?_, ?_⟩, ⟨?_, ?_, ?_⟩⟩ <;> simp [i64])
end Go.Proofs.Ytfacimebfdeaeaa
