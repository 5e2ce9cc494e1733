/- '==' and '!=' on the structures: one Bool each. -/
import Derived.Test.YtfacimebfdeaeaaAclMath
import Derived.WalkKit
namespace Go.Proofs.Ytfacimebfdeaeaa
open Pv Go.RowKit

set_option maxRecDepth 100000 in
theorem eqGuard_agg {P : Program} {op : BinOp} {t : TypeId} {x y : Operand} {cs ds : Array Value} (h : P.eqGuardType P.depth t = false) (w : World) : (eqGuard op t x y (.agg cs) (.agg ds)).run P w = .ok () w := by
  unfold eqGuard
  cases op <;> first | rfl | simp [h, go_sem]
set_option maxRecDepth 100000 in
theorem eqRun {op : BinOp} {t : TypeId} {x y : Operand} {cs ds : Array Value} {v : Value} (h : Try.prog.eqGuardType Try.prog.depth t = false) (hr : ∀ w, (binOp op t (.agg cs) (.agg ds)).run Try.prog w = .ok v w) : BinRun Try.prog op t x y (.agg cs) (.agg ds) v := fun w => by
  rw [Sem.run_bind, eqGuard_agg h]; exact hr w
set_option maxRecDepth 100000 in
theorem eqlRect {x y : Operand} (a b : Rect) : BinRun Try.prog .eql 33 x y a.v b.v (.bool (decide (a = b))) := by
  refine eqRun (by kernel_rfl) fun w => ?_
  rcases a with ⟨⟩; rcases b with ⟨⟩
  simp only [Rect.vals]
  go_simp
  (repeat' split) <;> simp_all
set_option maxRecDepth 100000 in
theorem neqRect {x y : Operand} (a b : Rect) : BinRun Try.prog .neq 33 x y a.v b.v (.bool (!decide (a = b))) := by
  refine eqRun (by kernel_rfl) fun w => ?_
  rcases a with ⟨⟩; rcases b with ⟨⟩
  simp only [Rect.vals]
  go_simp
  (repeat' split) <;> simp_all
end Go.Proofs.Ytfacimebfdeaeaa
