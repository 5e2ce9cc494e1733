/- The machine of values: three results. No condition. -/
import Derived.Test.YtfacimebfdeaeaaPvC
namespace Go.Proofs.Ytfacimebfdeaeaa.Pv
open Go Go.RowKit
section
variable {P : Program} {s : St}
end
end Go.Proofs.Ytfacimebfdeaeaa.Pv
