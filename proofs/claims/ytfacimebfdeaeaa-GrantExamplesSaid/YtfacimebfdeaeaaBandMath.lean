/- Plain laws of bands: numbers cut so that each band is inside or outside of every pair. No program in sight. -/
import Derived.Test.YtfacimebfdeaeaaD
import Derived.Lib.SlicesCompact
namespace Go.Proofs.Ytfacimebfdeaeaa
open Pv

def pval (p : Int × Int) : List Value := [.int .i64 p.1, .int .i64 p.2]
abbrev pairs (l : List (Int × Int)) : SV := .sl none .no 2 (l.map pval)
/-- Bands that begin at these numbers; the last one ends at hi. -/
def bandsOf (hi : Int) : List Int → List (Int × Int)
  | [] => []
  | [y] => [(y, hi)]
  | y :: z :: r => (y, z - 1) :: bandsOf hi (z :: r)
set_option maxRecDepth 100000 in
theorem bandsOf_len (hi : Int) : ∀ l, (bandsOf hi l).length = l.length
  | [] => rfl
  | [_] => rfl
  | y :: z :: r => by rw [bandsOf, List.length_cons, bandsOf_len hi (z :: r)]; rfl
set_option maxRecDepth 100000 in
/-- One more beginning: the last band ends ahead of it. -/
theorem bandsOf_snoc (hi : Int) : ∀ (l : List Int) (y x : Int), bandsOf hi (l ++ [y] ++ [x]) = (bandsOf hi (l ++ [y])).set l.length (y, x - 1) ++ [(x, hi)] ∧ (bandsOf hi (l ++ [y]))[l.length]? = some (y, hi)
  | [], y, x => ⟨rfl, rfl⟩
  | [a], y, x => ⟨rfl, rfl⟩
  | a :: b :: l, y, x => by
    obtain ⟨h1, h2⟩ := bandsOf_snoc hi (b :: l) y x
    refine ⟨?_, ?_⟩
    · have e : a :: b :: l ++ [y] ++ [x] = a :: b :: (l ++ [y] ++ [x]) := by simp
      have e2 : a :: b :: l ++ [y] = a :: b :: (l ++ [y]) := by simp
      have e3 : b :: l ++ [y] ++ [x] = b :: (l ++ [y] ++ [x]) := by simp
      have e4 : b :: l ++ [y] = b :: (l ++ [y]) := by simp
      rw [e, e2, bandsOf, bandsOf, List.length_cons, List.set_cons_succ, List.cons_append]
      rw [e3, e4] at h1
      rw [h1]
    · have e2 : a :: b :: l ++ [y] = a :: b :: (l ++ [y]) := by simp
      have e4 : b :: l ++ [y] = b :: (l ++ [y]) := by simp
      rw [e2, bandsOf, List.length_cons, List.getElem?_cons_succ]
      rw [e4] at h2
      exact h2
def beginsL (lo : Int) (ps : List (Int × Int)) : List Int := lo :: ps.flatMap fun p => [p.1, p.2 + 1]
def cutsB (lo hi : Int) (ps : List (Int × Int)) : List Int := (Go.Lib.compact (isort (beginsL lo ps))).filter fun x => decide (lo ≤ x ∧ x ≤ hi)
def bandsL (lo hi : Int) (ps : List (Int × Int)) : List (Int × Int) := bandsOf hi (cutsB lo hi ps)
set_option maxRecDepth 100000 in
theorem begins_len (lo : Int) : ∀ (ps : List (Int × Int)), (beginsL lo ps).length = 2 * ps.length + 1
  | [] => rfl
  | p :: ps => by
    have := begins_len lo ps
    unfold beginsL at *
    rw [List.flatMap_cons]
    rw [List.length_cons] at this
    have e : (List.flatMap (fun p : Int × Int => [p.1, p.2 + 1]) ps).length = 2 * ps.length := by omega
    generalize List.flatMap (fun p : Int × Int => [p.1, p.2 + 1]) ps = X at *
    show (lo :: p.1 :: (p.2 + 1) :: X).length = 2 * (ps.length + 1) + 1
    simp only [List.length_cons]
    omega
set_option maxRecDepth 100000 in
theorem begins_succ {lo : Int} {ps : List (Int × Int)} {k : Nat} {p : Int × Int} (h : ps[k]? = some p) : beginsL lo (ps.take (k + 1)) = beginsL lo (ps.take k) ++ [p.1, p.2 + 1] := by
  unfold beginsL
  rw [List.take_add_one, h, Option.toList_some, List.flatMap_append]; simp
set_option maxRecDepth 100000 in
theorem keeps_get {d : Array Int} {j : Nat} : Go.Lib.keeps d j = true ↔ (j = 0 ∨ d[j]! ≠ d[j - 1]!) := by unfold Go.Lib.keeps; simp
set_option maxRecDepth 100000 in
/-- What is sorted and compact: the same numbers, ascending. -/
theorem compact_sorted {zs : List Int} (h : zs.Pairwise (· ≤ ·)) : (Go.Lib.compact zs).Pairwise (· < ·) ∧ ∀ x, x ∈ Go.Lib.compact zs ↔ x ∈ zs := by
  have hget : ∀ j, j < zs.length → zs.toArray[j]! = zs[j]! := fun j hj => by simp
  have mono : ∀ i j, i ≤ j → j < zs.length → zs.toArray[i]! ≤ zs.toArray[j]! := fun i j hij hj => by
    rcases Nat.lt_or_ge i j with h1 | h1
    · have := List.pairwise_iff_getElem.1 h i j (by omega) hj h1
      simpa [show i < zs.length by omega, hj] using this
    · have : i = j := by omega
      subst this; exact Int.le_refl _
  have key : ∀ m, m ≤ zs.length → (Go.Lib.compactUpTo zs.toArray m).Pairwise (· < ·) ∧ (∀ x ∈ Go.Lib.compactUpTo zs.toArray m, 0 < m ∧ x ≤ zs.toArray[m - 1]!) ∧ ∀ j, j < m → zs.toArray[j]! ∈ Go.Lib.compactUpTo zs.toArray m := by
    intro m
    induction m with
    | zero => intro _; exact ⟨.nil, by simp [Go.Lib.compactUpTo], fun j hj => by omega⟩
    | succ m ih =>
      intro hm
      obtain ⟨h1, h2, h3⟩ := ih (by omega)
      rw [Go.Lib.compactUpTo_succ]
      by_cases hk : Go.Lib.keeps zs.toArray m = true
      · rw [if_pos hk]
        have hlt : ∀ x ∈ Go.Lib.compactUpTo zs.toArray m, x < zs.toArray[m]! := fun x hx => by
          obtain ⟨h4, h5⟩ := h2 x hx
          rcases keeps_get.1 hk with h6 | h6
          · omega
          · have := mono (m - 1) m (by omega) (by omega)
            omega
        refine ⟨List.pairwise_append.2 ⟨h1, List.pairwise_singleton _ _, fun x hx y hy => ?_⟩, fun x hx => ⟨by omega, ?_⟩, fun j hj => ?_⟩
        · rw [List.mem_singleton] at hy; subst hy; exact hlt x hx
        · rw [Nat.add_sub_cancel]
          rcases List.mem_append.1 hx with hx | hx
          · exact Int.le_of_lt (hlt x hx)
          · rw [List.mem_singleton] at hx; rw [hx]; exact Int.le_refl _
        · by_cases e : j = m
          · subst e; simp
          · exact List.mem_append_left _ (h3 j (by omega))
      · rw [if_neg hk, List.append_nil]
        have hk' : m ≠ 0 ∧ zs.toArray[m]! = zs.toArray[m - 1]! := by
          rw [keeps_get] at hk
          exact ⟨fun h => hk (.inl h), Classical.byContradiction fun h => hk (.inr h)⟩
        refine ⟨h1, fun x hx => ⟨by omega, ?_⟩, fun j hj => ?_⟩
        · rw [Nat.add_sub_cancel, hk'.2]; exact (h2 x hx).2
        · by_cases e : j = m
          · subst e; rw [hk'.2]; exact h3 _ (by omega)
          · exact h3 j (by omega)
  obtain ⟨k1, k2, k3⟩ := key zs.length (Nat.le_refl _)
  refine ⟨k1, fun x => ⟨fun hx => ?_, fun hx => ?_⟩⟩
  · unfold Go.Lib.compact Go.Lib.compactUpTo at hx
    obtain ⟨j, hj, rfl⟩ := List.mem_map.1 hx
    have hj' : j < zs.length := List.mem_range.1 (List.mem_filter.1 hj).1
    simp [hj']
  · obtain ⟨j, hj, rfl⟩ := List.mem_iff_getElem.1 hx
    have := k3 j hj
    unfold Go.Lib.compact
    simpa [hj] using this
set_option maxRecDepth 100000 in
theorem isort_sorted (zs : List Int) : (isort zs).Pairwise (· ≤ ·) := by
  have := List.pairwise_mergeSort (le := fun x y : Int => decide (x ≤ y)) (fun a b c h1 h2 => by simp at h1 h2 ⊢; omega) (fun a b => by simp; omega) zs
  exact this.imp fun h => by simpa using h
set_option maxRecDepth 100000 in
theorem isort_mem (zs : List Int) (x : Int) : x ∈ isort zs ↔ x ∈ zs := List.mem_mergeSort
set_option maxRecDepth 100000 in
theorem begins_mem {lo : Int} {ps : List (Int × Int)} {x : Int} : x ∈ beginsL lo ps ↔ x = lo ∨ ∃ p ∈ ps, x = p.1 ∨ x = p.2 + 1 := by
  unfold beginsL
  rw [List.mem_cons, List.mem_flatMap]
  simp
set_option maxRecDepth 100000 in
theorem cutsB_mem {lo hi : Int} {ps : List (Int × Int)} {x : Int} : x ∈ cutsB lo hi ps ↔ lo ≤ x ∧ x ≤ hi ∧ (x = lo ∨ ∃ p ∈ ps, x = p.1 ∨ x = p.2 + 1) := by
  unfold cutsB
  rw [List.mem_filter, (compact_sorted (isort_sorted _)).2, isort_mem, begins_mem]
  simp only [decide_eq_true_eq]
  exact ⟨fun ⟨a, b, c⟩ => ⟨b, c, a⟩, fun ⟨b, c, a⟩ => ⟨a, b, c⟩⟩
set_option maxRecDepth 100000 in
theorem cutsB_sorted (lo hi : Int) (ps : List (Int × Int)) : (cutsB lo hi ps).Pairwise (· < ·) := (compact_sorted (isort_sorted _)).1.filter _
set_option maxRecDepth 100000 in
theorem cutsB_len (lo hi : Int) (ps : List (Int × Int)) : (cutsB lo hi ps).length ≤ 2 * ps.length + 1 := by
  unfold cutsB
  refine Nat.le_trans (List.length_filter_le _ _) (Nat.le_trans (compact_len _) ?_)
  rw [isort_len, begins_len]; exact Nat.le_refl _
end Go.Proofs.Ytfacimebfdeaeaa
