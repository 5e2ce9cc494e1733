/- The machine of values: three results. No condition. -/
import Derived.Test.YtfacimebfdeaeaaPvC
namespace Go.Proofs.Ytfacimebfdeaeaa.Pv
open Go Go.RowKit
section
variable {P : Program} {s : St}
theorem ResOk.vvv {t1 t2 t3 : Nat} {u1 v1 u2 v2 u3 v3 : Value} (h1 : s.ev (.tmp t1) = .s (.v u1)) (e1 : u1 = v1) (h2 : s.ev (.tmp t2) = .s (.v u2)) (e2 : u2 = v2) (h3 : s.ev (.tmp t3) = .s (.v u3)) (e3 : u3 = v3) : ResOk P s [.tmp t1, .tmp t2, .tmp t3] (.tup [.v v1, .v v2, .v v3]) :=
  e1 ▸ e2 ▸ e3 ▸ .three (.tmp h1) (.refl _) (.tmp h2) (.refl _) (.tmp h3) (.refl _)
theorem ResOk.ssv {t1 t2 t3 τ1 τ2 k1 k2 : Nat} {app1 app2 : App} {a1 b1 a2 b2 : List (List Value)} {u3 v3 : Value} (h1 : s.ev (.tmp t1) = .s (.sl (some τ1) app1 k1 a1)) (e1 : a1 = b1) (h2 : s.ev (.tmp t2) = .s (.sl (some τ2) app2 k2 a2)) (e2 : a2 = b2) (h3 : s.ev (.tmp t3) = .s (.v u3)) (e3 : u3 = v3) : ResOk P s [.tmp t1, .tmp t2, .tmp t3] (.tup [.sl (some 0) app1 k1 b1, .sl (some 0) app2 k2 b2, .v v3]) :=
  e1 ▸ e2 ▸ e3 ▸ .three (.tmp h1) (.refl _) (.tmp h2) (.refl _) (.tmp h3) (.refl _)
theorem ResOk.nnv {t1 t2 t3 k1 k2 : Nat} {app1 app2 : App} {b1 b2 : List (List Value)} {u3 v3 : Value} (h1 : s.ev (.tmp t1) = .s .nil) (e1 : [] = b1) (h2 : s.ev (.tmp t2) = .s .nil) (e2 : [] = b2) (h3 : s.ev (.tmp t3) = .s (.v u3)) (e3 : u3 = v3) : ResOk P s [.tmp t1, .tmp t2, .tmp t3] (.tup [.sl (some 0) app1 k1 b1, .sl (some 0) app2 k2 b2, .v v3]) :=
  e1 ▸ e2 ▸ e3 ▸ .three (.tmp h1) (.nil _ _ _) (.tmp h2) (.nil _ _ _) (.tmp h3) (.refl _)
theorem eqGuard_bool {op : BinOp} {t : TypeId} {x y : Operand} {a b : Bool} (w : World) : (eqGuard op t x y (.bool a) (.bool b)).run P w = .ok () w := by
  unfold eqGuard
  cases op <;> rfl
end
end Go.Proofs.Ytfacimebfdeaeaa.Pv
