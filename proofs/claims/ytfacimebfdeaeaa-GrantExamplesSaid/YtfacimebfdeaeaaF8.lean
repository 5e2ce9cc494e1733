/- The walks of the reference's points, and of its Plain. -/
import Derived.Test.YtfacimebfdeaeaaF5
import Derived.Test.YtfacimebfdeaeaaPointMath
import Derived.Test.YtfacimebfdeaeaaPlainMath
namespace Go.Proofs.Ytfacimebfdeaeaa
open Pv Go.RowKit

set_option maxRecDepth 100000 in
theorem map_succ {α β : Type} {B : List α} {f : α → β} {j : Nat} {b : α} (h : B[j]? = some b) : (B.take (j + 1)).map f = (B.take j).map f ++ [f b] := by
  rw [List.take_add_one, h, Option.toList_some, List.map_append]; rfl
/-! ### spent, and Plain -/
end Go.Proofs.Ytfacimebfdeaeaa
