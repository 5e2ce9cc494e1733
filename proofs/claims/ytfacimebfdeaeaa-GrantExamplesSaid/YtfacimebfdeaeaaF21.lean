/- The walk of the reference's For. -/
import Derived.Test.YtfacimebfdeaeaaF20
namespace Go.Proofs.Ytfacimebfdeaeaa
namespace Pv
open Go Go.RowKit
section
variable {P : Program} {s : St}
end
end Pv
open Pv Go.RowKit

abbrev forR (x : Nat × List Int × Int) : PV := .tup [.v (.int .u64 (x.1 : Int)), intsR x.2.1, .v (.int .i64 x.2.2)]
set_option maxRecDepth 100000 in
theorem forS_rel {fn : Nat} {r : Rect} {a : List Rule} {l : List Grant} (h : relB fn = false) : forS fn r a l = (0, [], 2) := by unfold forS; rw [h]; rfl
set_option maxRecDepth 100000 in
theorem forS_rect {fn : Nat} {r : Rect} {a : List Rule} {l : List Grant} (h : relB fn = true) (h2 : rectOk r = false) : forS fn r a l = (0, [], 3) := by unfold forS; rw [h, h2]; rfl
set_option maxRecDepth 100000 in
theorem forS_rules {fn : Nat} {r : Rect} {a : List Rule} {l : List Grant} (h : relB fn = true) (h2 : rectOk r = true) (h3 : ¬chkE a = 0) : forS fn r a l = (0, [], chkE a) := by unfold forS; rw [if_pos h, if_pos h2, if_neg h3]
set_option maxRecDepth 100000 in
theorem forS_grants {fn : Nat} {r : Rect} {a : List Rule} {l : List Grant} (h : relB fn = true) (h2 : rectOk r = true) (h3 : chkE a = 0) (h4 : ¬chkG l = 0) : forS fn r a l = (0, [], chkG l) := by unfold forS; rw [if_pos h, if_pos h2, if_pos h3, if_neg h4]
set_option maxRecDepth 100000 in
theorem forS_ok {fn : Nat} {r : Rect} {a : List Rule} {l : List Grant} (h : relB fn = true) (h2 : rectOk r = true) (h3 : chkE a = 0) (h4 : chkG l = 0) : forS fn r a l = (toN (selB fn r a) l l.length, byN (selB fn r a) l l.length, 0) := by unfold forS; rw [if_pos h, if_pos h2, if_pos h3, if_pos h4]
end Go.Proofs.Ytfacimebfdeaeaa
