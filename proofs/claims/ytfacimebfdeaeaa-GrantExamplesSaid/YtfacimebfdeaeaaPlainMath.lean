/- Plain laws of rules spent: which rules stay. No program in sight. -/
import Derived.Test.YtfacimebfdeaeaaAreaMath
import Derived.Test.YtfacimebfdeaeaaAclMath
namespace Go.Proofs.Ytfacimebfdeaeaa

set_option maxRecDepth 100000 in
theorem good_rectOk {n : Int} {r : Rule} (h : goodR n r = true) : rectOk r.rect = true := by
  simp only [goodR, Bool.and_eq_true] at h; exact h.1
end Go.Proofs.Ytfacimebfdeaeaa
