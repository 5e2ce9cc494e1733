/- Plain laws of areas: what is left of a range stays short. No program in sight. -/
import Derived.Test.YtonangdimkgdpaaRectMath
namespace Go.Proofs.Ytonangdimkgdpaa

def area (r : Rect) : Int := (r.c2 - r.c1 + 1) * (r.r2 - r.r1 + 1)
def total (l : List Rect) : Int := (l.map area).sum
set_option maxRecDepth 100000 in
theorem total_nil : total [] = 0 := rfl
set_option maxRecDepth 100000 in
theorem total_cons (r : Rect) (l : List Rect) : total (r :: l) = area r + total l := by simp [total]
set_option maxRecDepth 100000 in
theorem total_append (a b : List Rect) : total (a ++ b) = total a + total b := by
  induction a with
  | nil => simp [total_nil]
  | cons r a ih => rw [List.cons_append, total_cons, total_cons, ih]; omega
set_option maxRecDepth 100000 in
theorem total_reverse (a : List Rect) : total a.reverse = total a := by
  induction a with
  | nil => rfl
  | cons r a ih => rw [List.reverse_cons, total_append, total_cons, total_cons, ih, total_nil]; omega
set_option maxRecDepth 100000 in
theorem total_filter {p : Rect → Bool} : ∀ {l : List Rect}, (∀ r ∈ l, 0 ≤ area r) → total (l.filter p) ≤ total l := by
  intro l
  induction l with
  | nil => intro _; exact Int.le_refl _
  | cons r l ih =>
    intro h
    have h0 := h r (by simp)
    have h1 := ih fun q hq => h q (by simp [hq])
    rw [List.filter_cons]
    split
    · rw [total_cons, total_cons]; omega
    · rw [total_cons]; omega
set_option maxRecDepth 100000 in
theorem area_pos {r : Rect} (h : rectOk r = true) : 1 ≤ area r := by
  rw [ok_iff] at h
  exact Int.mul_pos (by omega) (by omega)
set_option maxRecDepth 100000 in
theorem area_small {r : Rect} (h : rectOk r = true) : area r ≤ 1048576 := by
  rw [ok_iff] at h
  have := Int.mul_le_mul (a := r.c2 - r.c1 + 1) (b := r.r2 - r.r1 + 1) (c := 1024) (d := 1024) (by omega) (by omega) (by omega) (by omega)
  exact this
set_option maxRecDepth 100000 in
theorem total_len : ∀ {l : List Rect}, (∀ r ∈ l, rectOk r = true) → (l.length : Int) ≤ total l := by
  intro l
  induction l with
  | nil => intro _; simp [total_nil]
  | cons r l ih =>
    intro h
    have h0 := area_pos (h r (by simp))
    have h1 := ih fun q hq => h q (by simp [hq])
    rw [total_cons, List.length_cons]; omega
set_option maxRecDepth 100000 in
theorem rest_total {a b : Rect} (ha : rectOk a = true) : total (restL a b) ≤ area a := by
  unfold restL
  split
  · rename_i hm
    simp only [meets, Bool.and_eq_true, ok_iff] at hm
    obtain ⟨_, hb, hm⟩ := hm
    rw [ok_iff] at ha
    have e1 : (meetR a b).c1 = max a.c1 b.c1 := rfl
    have e2 : (meetR a b).r1 = max a.r1 b.r1 := rfl
    have e3 : (meetR a b).c2 = min a.c2 b.c2 := rfl
    have e4 : (meetR a b).r2 = min a.r2 b.r2 := rfl
    generalize hq : meetR a b = m at *
    have n1 : 0 ≤ (a.c2 - a.c1 + 1) * (m.r1 - 1 - a.r1 + 1) := Int.mul_nonneg (by omega) (by omega)
    have n2 : 0 ≤ (m.c1 - 1 - a.c1 + 1) * (m.r2 - m.r1 + 1) := Int.mul_nonneg (by omega) (by omega)
    have n3 : 0 ≤ (a.c2 - (m.c2 + 1) + 1) * (m.r2 - m.r1 + 1) := Int.mul_nonneg (by omega) (by omega)
    have n4 : 0 ≤ (a.c2 - a.c1 + 1) * (a.r2 - (m.r2 + 1) + 1) := Int.mul_nonneg (by omega) (by omega)
    refine Int.le_trans (total_filter fun r hr => ?_) ?_
    · simp only [fourR, hq, List.mem_cons, List.not_mem_nil, or_false] at hr
      rcases hr with rfl | rfl | rfl | rfl
      · exact n1
      · exact n2
      · exact n3
      · exact n4
    · simp only [fourR, hq, total_cons, total_nil, area]
      have k1 : (m.c1 - 1 - a.c1 + 1 + (a.c2 - (m.c2 + 1) + 1)) * (m.r2 - m.r1 + 1) ≤ (a.c2 - a.c1 + 1) * (m.r2 - m.r1 + 1) := Int.mul_le_mul_of_nonneg_right (by omega) (by omega)
      rw [Int.add_mul] at k1
      have k2 : (a.c2 - a.c1 + 1) * (a.r2 - a.r1 + 1) = (a.c2 - a.c1 + 1) * (m.r1 - 1 - a.r1 + 1) + (a.c2 - a.c1 + 1) * (m.r2 - m.r1 + 1) + (a.c2 - a.c1 + 1) * (a.r2 - (m.r2 + 1) + 1) := by
        rw [← Int.mul_add, ← Int.mul_add]; congr 1; omega
      omega
  · rw [total_cons, total_nil]; omega
set_option maxRecDepth 100000 in
theorem flat_total {x : Rect} : ∀ {l : List Rect}, (∀ p ∈ l, rectOk p = true) → total (l.flatMap fun p => restL p x) ≤ total l := by
  intro l
  induction l with
  | nil => intro _; exact Int.le_refl _
  | cons r l ih =>
    intro h
    have h0 := rest_total (b := x) (h r (by simp))
    have h1 := ih fun q hq => h q (by simp [hq])
    rw [List.flatMap_cons, total_append, total_cons]; omega
/-- What is left in the midst of a pass: k ranges yet to come, the others cut. -/
def midL (left : List Rect) (x : Rect) (k : Nat) : List Rect := left.take k ++ ((left.drop k).reverse.flatMap fun p => restL p x)
set_option maxRecDepth 100000 in
theorem mid_ok {left : List Rect} {x : Rect} {k : Nat} (h : ∀ p ∈ left, rectOk p = true) : ∀ p ∈ midL left x k, rectOk p = true := by
  intro p hp
  rcases List.mem_append.1 hp with hp | hp
  · exact h p (List.mem_of_mem_take hp)
  · obtain ⟨q, hq, hp⟩ := List.mem_flatMap.1 hp
    exact rest_ok (h q (List.mem_of_mem_drop (List.mem_reverse.1 hq))) p hp
set_option maxRecDepth 100000 in
theorem mid_total {left : List Rect} {x : Rect} {k : Nat} (h : ∀ p ∈ left, rectOk p = true) : total (midL left x k) ≤ total left := by
  have h1 := flat_total (x := x) (l := (left.drop k).reverse) fun p hp => h p (List.mem_of_mem_drop (List.mem_reverse.1 hp))
  rw [total_reverse] at h1
  have h2 : total left = total (left.take k) + total (left.drop k) := by rw [← total_append, List.take_append_drop]
  rw [midL, total_append]; omega
set_option maxRecDepth 100000 in
theorem mid_all (left : List Rect) (x : Rect) : midL left x left.length = left := by simp [midL]
set_option maxRecDepth 100000 in
theorem mid_zero (left : List Rect) (x : Rect) : midL left x 0 = stepL left x := by simp [midL, stepL]
set_option maxRecDepth 100000 in
theorem mid_step {left : List Rect} {x p : Rect} {k : Nat} (h : left[k]? = some p) : midL left x k = (midL left x (k + 1)).take k ++ ((midL left x (k + 1)).drop (k + 1) ++ restL p x) ∧ (midL left x (k + 1))[k]? = some p := by
  have hk : k < left.length := (List.getElem?_eq_some_iff.1 h).1
  have e : left.drop k = p :: left.drop (k + 1) := by
    rw [List.drop_eq_getElem_cons hk, (List.getElem?_eq_some_iff.1 h).2]
  have l1 : (left.take (k + 1)).length = k + 1 := by rw [List.length_take]; omega
  refine ⟨?_, ?_⟩
  · unfold midL
    rw [List.take_append_of_le_length (by omega), List.take_take, Nat.min_eq_left (by omega), List.drop_left' l1, e, List.reverse_cons, List.flatMap_append]
    simp
  · unfold midL
    rw [List.getElem?_append_left (by omega), List.getElem?_take_of_lt (by omega), h]
set_option maxRecDepth 100000 in
theorem rest_len (a b : Rect) : (restL a b).length ≤ 4 := by
  unfold restL
  split
  · exact Nat.le_trans (List.length_filter_le _ _) (Nat.le_refl 4)
  · show 1 ≤ 4; decide
set_option maxRecDepth 100000 in
theorem mid_len {left : List Rect} {x : Rect} {k : Nat} (h : ∀ p ∈ left, rectOk p = true) (ht : total left ≤ 1048576) : (midL left x k).length ≤ 1048576 := by
  have h1 := total_len (mid_ok (x := x) (k := k) h)
  have h2 := mid_total (x := x) (k := k) h
  omega
end Go.Proofs.Ytonangdimkgdpaa
