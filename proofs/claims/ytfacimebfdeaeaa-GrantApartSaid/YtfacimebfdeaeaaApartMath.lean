/- One rule more: the rights at an address, and over a range. No program in sight. -/
import Derived.Test.YtfacimebfdeaeaaOverMath
namespace Go.Proofs.Ytfacimebfdeaeaa
open Pv Go.RowKit

set_option maxRecDepth 100000 in
/-- The rights at an address behind one rule more. -/
theorem atL_out {l : List Rule} (hl : l ≠ []) {q : Rule} {y : Ref} (h : hasB q.rect y = false) : atL (l ++ [q]) y = atL l y := by
  have hr : (l ++ [q])[l.length]? = some q := by simp
  have e : lastN y (l ++ [q]) (l ++ [q]).length = lastN y l l.length := by
    rw [show (l ++ [q]).length = l.length + 1 by simp, lastN_no hr h, lastN_append (Nat.le_refl _)]
  unfold atL
  rw [e, List.getElem?_append_left (lastN_lt (List.length_pos_iff.2 hl))]
set_option maxRecDepth 100000 in
theorem atL_in {l : List Rule} {q : Rule} {y : Ref} (h : hasB q.rect y = true) : atL (l ++ [q]) y = q.rights := by
  have hr : (l ++ [q])[l.length]? = some q := by simp
  unfold atL
  rw [show (l ++ [q]).length = l.length + 1 by simp, lastN_yes hr h, hr]; rfl
set_option maxRecDepth 100000 in
theorem overG_congr {g : Rights → Nat} {r : Rect} {a b : List Rule} (hr : rectOk r = true) (ha : chkE a = 0) (hb : chkE b = 0) (h : ∀ x, hasB r x = true → atL a x = atL b x) : overG g r a = overG g r b :=
  Nat.eq_of_testBit_eq fun i => by
    rw [Bool.eq_iff_iff, overG_bit hr ha, overG_bit hr hb]
    exact and_congr_right fun _ => forall_congr' fun x => ⟨fun k hx => by rw [← h x hx]; exact k hx, fun k hx => by rw [h x hx]; exact k hx⟩
end Go.Proofs.Ytfacimebfdeaeaa
