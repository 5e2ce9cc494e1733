/- The machine of values: a field of a value. No condition. -/
import Derived.Test.YtfacimebfdeaeaaPvM
namespace Go.Proofs.Ytfacimebfdeaeaa.Pv
open Go Go.RowKit
/-! ### a field of a value -/
/-! ### a drawn region: its first operations as they stand, the rest order by order -/
section
variable {P : Program} {ops : Array Oper} {md : Region.Mode} {K : St → Prop}
end
end Go.Proofs.Ytfacimebfdeaeaa.Pv
