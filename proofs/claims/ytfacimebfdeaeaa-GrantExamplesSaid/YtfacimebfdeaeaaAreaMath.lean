/- Plain laws of areas: what is left of a range stays short. No program in sight. -/
import Derived.Test.YtfacimebfdeaeaaRectMath
namespace Go.Proofs.Ytfacimebfdeaeaa

end Go.Proofs.Ytfacimebfdeaeaa
