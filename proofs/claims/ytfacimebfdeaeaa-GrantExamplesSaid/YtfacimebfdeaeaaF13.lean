/- The walks of the helpers of region's laws, and of RegionSplits. -/
import Derived.Test.YtfacimebfdeaeaaOverMath
import Derived.Test.YtfacimebfdeaeaaPvC
namespace Go.Proofs.Ytfacimebfdeaeaa
open Pv Go.RowKit

set_option maxRecDepth 100000 in
theorem overS_ok {r : Rect} {l : List Rule} (hr : rectOk r = true) (hl : chkE l = 0) : overS r l = (overR r l, 0) := by
  unfold overS; rw [if_pos (regE_iff.2 ⟨hr, hl⟩)]

end Go.Proofs.Ytfacimebfdeaeaa
