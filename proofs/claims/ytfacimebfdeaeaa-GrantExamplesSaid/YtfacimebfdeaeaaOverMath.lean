/- Plain laws of the rights over a range: bit by bit, those of all its addresses. No program in sight. -/
import Derived.Test.YtfacimebfdeaeaaF12
import Derived.Test.YtfacimebfdeaeaaPointMath
namespace Go.Proofs.Ytfacimebfdeaeaa
open Pv
def atL (a : List Rule) (x : Ref) : Rights := ((a[lastN x a a.length]?).map Rule.rights).getD noRights
def overG (g : Rights → Nat) (r : Rect) (a : List Rule) : Nat := meetN ((partsL r a []).map fun p => g (rightsOf a p))
def pointG (g : Rights → Nat) (r : Rect) (a : List Rule) : Nat := meetN ((pointsL r a).map fun x => g (atL a x))
set_option maxRecDepth 100000 in
theorem overR_eq (r : Rect) (a : List Rule) : overR r a = ⟨overG Rights.read r a, overG Rights.write r a, overG Rights.own r a⟩ := rfl
set_option maxRecDepth 100000 in
theorem fold_bit (i : Nat) : ∀ (l : List Nat) (s : Nat), (l.foldl (fun a b => a &&& b) s).testBit i = true ↔ s.testBit i = true ∧ ∀ n ∈ l, n.testBit i = true
  | [], s => by simp
  | n :: l, s => by
    rw [List.foldl_cons, fold_bit i l, Nat.testBit_and, Bool.and_eq_true]
    simp only [List.mem_cons, forall_eq_or_imp]
    exact ⟨fun ⟨⟨a, b⟩, c⟩ => ⟨a, b, c⟩, fun ⟨a, b, c⟩ => ⟨⟨a, b⟩, c⟩⟩
set_option maxRecDepth 100000 in
theorem full_bit (i : Nat) : (18446744073709551615 : Nat).testBit i = true ↔ i < 64 := by
  rw [show (18446744073709551615 : Nat) = 2 ^ 64 - 1 by decide, Nat.testBit_two_pow_sub_one]; simp
set_option maxRecDepth 100000 in
theorem meetN_bit (i : Nat) (l : List Nat) : (meetN l).testBit i = true ↔ i < 64 ∧ ∀ n ∈ l, n.testBit i = true := by
  unfold meetN; rw [fold_bit, full_bit]
set_option maxRecDepth 100000 in
theorem lastN_congr {x y : Ref} {l : List Rule} (h : ∀ q ∈ l, hasB q.rect x = hasB q.rect y) : ∀ n, lastN x l n = lastN y l n
  | 0 => rfl
  | n + 1 => by
    rw [lastN, lastN, lastN_congr h n]
    cases hq : l[n]? with
    | none => rfl
    | some q => simp only; rw [h q (List.mem_of_getElem? hq)]
set_option maxRecDepth 100000 in
/-- What holds of each part's rule holds of each address. -/
theorem overG_bit {g : Rights → Nat} {r : Rect} {a : List Rule} (hr : rectOk r = true) (ha : chkE a = 0) (i : Nat) : (overG g r a).testBit i = true ↔ i < 64 ∧ ∀ x, hasB r x = true → (g (atL a x)).testBit i = true := by
  have hb : ∀ y ∈ ([] : List Rule), rectOk y.rect = true := fun y hy => by cases hy
  obtain ⟨h1, h2, _⟩ := parts_spec hr (good_rects ha) hb
  have hr2 : ∀ p ∈ partsL r a [], ∀ x, hasB p.r x = true → rightsOf a p = atL a x := fun p hp x hx => by
    obtain ⟨j, q, e1, e2, e3⟩ := part_rule hr ha hb hp
    unfold rightsOf atL
    rw [e1, Int.toNat_natCast, e3 x hx]
  unfold overG
  rw [meetN_bit]
  refine and_congr_right fun _ => ⟨fun h x hx => ?_, fun h n hn => ?_⟩
  · obtain ⟨p, hp, hpx⟩ := h2 x hx
    rw [← hr2 p hp x hpx]
    exact h _ (List.mem_map.2 ⟨p, hp, rfl⟩)
  · obtain ⟨p, hp, rfl⟩ := List.mem_map.1 hn
    obtain ⟨g1, _, g3⟩ := h1 p hp
    have ho := ok_iff.1 g1
    have hx : hasB p.r ⟨p.r.c1, p.r.r1⟩ = true := has_iff.2 (by simp only; omega)
    rw [hr2 p hp _ hx]
    exact h _ (g3 _ hx)
set_option maxRecDepth 100000 in
theorem pointG_bit {g : Rights → Nat} {r : Rect} {a : List Rule} (i : Nat) : (pointG g r a).testBit i = true ↔ i < 64 ∧ ∀ x, hasB r x = true → (g (atL a x)).testBit i = true := by
  unfold pointG
  rw [meetN_bit]
  refine and_congr_right fun _ => ⟨fun h x hx => ?_, fun h n hn => ?_⟩
  · obtain ⟨q, hq, hst⟩ := points_stand (l := a) hx
    have e : atL a x = atL a q := by unfold atL; rw [lastN_congr hst]
    rw [e]
    exact h _ (List.mem_map.2 ⟨q, hq, rfl⟩)
  · obtain ⟨q, hq, rfl⟩ := List.mem_map.1 hn
    exact h q (points_in hq)
set_option maxRecDepth 100000 in
theorem over_point {g : Rights → Nat} {r : Rect} {a : List Rule} (hr : rectOk r = true) (ha : chkE a = 0) : overG g r a = pointG g r a :=
  Nat.eq_of_testBit_eq fun i => by rw [Bool.eq_iff_iff, overG_bit hr ha, pointG_bit]
set_option maxRecDepth 100000 in
theorem overG_lt {g : Rights → Nat} {r : Rect} {a : List Rule} : overG g r a < 18446744073709551616 := meetN_lt _ _ (by decide)
set_option maxRecDepth 100000 in
theorem rules3_chk : chkE rules3 = 0 := by decide
end Go.Proofs.Ytfacimebfdeaeaa
