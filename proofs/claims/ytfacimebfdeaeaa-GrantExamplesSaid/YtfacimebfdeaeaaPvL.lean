/- The machine of values: slices without room. No condition. -/
import Derived.Test.YtfacimebfdeaeaaPvJ
namespace Go.Proofs.Ytfacimebfdeaeaa.Pv
open Go Go.RowKit
/-! ### slices without room: of these nothing is known but their headers -/
section
variable {P : Program} {ev : Operand → PV} {bx : Nat → Option (List Value)} {d : Option Nat} {ty : TypeId} {pos : String} {aft : Array Edge} {g : Option (Nat × Bool)}
end
section
variable {dr : Bool} {P : Program} {ops : Array Oper} {rest : List Oper} {env : List (Nat × PV)} {bs : List (Nat × List Value)} {K : St → Prop} {d : Nat} {ty : TypeId} {pos : String} {aft : Array Edge} {g : Option (Nat × Bool)}
end
/-! ### drawn regions in which nothing is written -/
section
variable {P : Program} {ops : Array Oper} {md : Region.Mode} {K : St → Prop}
end
end Go.Proofs.Ytfacimebfdeaeaa.Pv
