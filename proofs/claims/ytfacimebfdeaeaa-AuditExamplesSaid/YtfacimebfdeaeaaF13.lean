/- The walks of the helpers of region's laws, and of RegionSplits. -/
import Derived.Test.YtfacimebfdeaeaaOverMath
import Derived.Test.YtfacimebfdeaeaaPvC
namespace Go.Proofs.Ytfacimebfdeaeaa
open Pv Go.RowKit

def validL (r : Rect) (l : List Rule) : Bool := decide (l.length ≤ 40) && (decide (chkE l = 0) && rectOk r)
set_option maxRecDepth 100000 in
theorem valid_iff {r : Rect} {l : List Rule} : validL r l = true ↔ l.length ≤ 40 ∧ chkE l = 0 ∧ rectOk r = true := by simp [validL]
set_option maxRecDepth 100000 in
theorem overS_ok {r : Rect} {l : List Rule} (hr : rectOk r = true) (hl : chkE l = 0) : overS r l = (overR r l, 0) := by
  unfold overS; rw [if_pos (regE_iff.2 ⟨hr, hl⟩)]

set_option maxRecDepth 100000 in
theorem andRun {t : TypeId} {x y : Operand} {a b : Nat} (ha : a < 18446744073709551616) (hb : b < 18446744073709551616) : BinRun Try.prog .and t x y (.int .u64 (a : Int)) (.int .u64 (b : Int)) (.int .u64 ((a &&& b : Nat) : Int)) := runBits (.inl rfl) (andU64 ha hb)
end Go.Proofs.Ytfacimebfdeaeaa
