/- The machine of values: a long body cut where its ways meet. No condition. -/
import Derived.Test.YtfacimebfdeaeaaPv
namespace Go.Proofs.Ytfacimebfdeaeaa.Pv
open Go Go.RowKit
/-- Put off. -/
structure Hold (p : Prop) : Prop where
  of ::
  h : p
section
variable {P : Program} {w0 : Base} {n : Nat} {s : St} {N R : St → Prop} {X : Nat → St → Prop}
end
end Go.Proofs.Ytfacimebfdeaeaa.Pv
