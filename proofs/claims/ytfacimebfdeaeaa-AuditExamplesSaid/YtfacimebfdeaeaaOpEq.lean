/- '!=' on operations. -/
import Derived.Test.YtfacimebfdeaeaaEqs
import Derived.Test.YtfacimebfdeaeaaD3
import Derived.Laws.Strings
namespace Go.Proofs.Ytfacimebfdeaeaa
open Pv Go.RowKit
set_option maxRecDepth 100000 in
theorem neqOpn {x y : Operand} (a b : Opn) : BinRun Try.prog .neq 66 x y a.v b.v (.bool (!decide (a = b))) := by
  refine eqRun (by kernel_rfl) fun w => ?_
  rcases a with ⟨k1, u1, ⟨a1, b1, c1, d1⟩, s1, ⟨e1, g1, h1⟩, f1, t1, i1⟩; rcases b with ⟨k2, u2, ⟨a2, b2, c2, d2⟩, s2, ⟨e2, g2, h2⟩, f2, t2, i2⟩
  simp only [Opn.vals]
  go_simp
  rcases Decidable.em (k1 = k2) with rfl | h; rotate_left; · (simp [h]; try omega)
  rcases Decidable.em (u1 = u2) with rfl | h; rotate_left; · (simp [h]; try omega)
  rcases Decidable.em (a1 = a2) with rfl | h; rotate_left; · (simp [h]; try omega)
  rcases Decidable.em (b1 = b2) with rfl | h; rotate_left; · (simp [h]; try omega)
  rcases Decidable.em (c1 = c2) with rfl | h; rotate_left; · (simp [h]; try omega)
  rcases Decidable.em (d1 = d2) with rfl | h; rotate_left; · (simp [h]; try omega)
  rcases Decidable.em (s1 = s2) with rfl | h; rotate_left; · (have h3 : ¬s1.toList = s2.toList := fun h4 => h (by rw [ByteArray.toList_eq, ByteArray.toList_eq] at h4; exact ByteArray.ext (Array.toList_inj.mp h4)); simp [h, h3])
  rcases Decidable.em (e1 = e2) with rfl | h; rotate_left; · (simp [h]; try omega)
  rcases Decidable.em (g1 = g2) with rfl | h; rotate_left; · (simp [h]; try omega)
  rcases Decidable.em (h1 = h2) with rfl | h; rotate_left; · (simp [h]; try omega)
  rcases Decidable.em (f1 = f2) with rfl | h; rotate_left; · (simp [h]; try omega)
  rcases Decidable.em (t1 = t2) with rfl | h; rotate_left; · (simp [h]; try omega)
  rcases Decidable.em (i1 = i2) with rfl | h; rotate_left; · (simp [h]; try omega)
  simp
end Go.Proofs.Ytfacimebfdeaeaa
