/- Plain laws of ranges: what is left of a range, and whether ranges cover one. No program in sight. -/
import Derived.Test.YtonangdimkgdpaaD
namespace Go.Proofs.Ytonangdimkgdpaa

def meetR (a b : Rect) : Rect := ⟨max a.c1 b.c1, max a.r1 b.r1, min a.c2 b.c2, min a.r2 b.r2⟩
def meets (a b : Rect) : Bool := rectOk a && (rectOk b && rectOk (meetR a b))
def fourR (a b : Rect) : List Rect :=
  let m := meetR a b
  [⟨a.c1, a.r1, a.c2, m.r1 - 1⟩, ⟨a.c1, m.r1, m.c1 - 1, m.r2⟩, ⟨m.c2 + 1, m.r1, a.c2, m.r2⟩, ⟨a.c1, m.r2 + 1, a.c2, a.r2⟩]
def fullR (r : Rect) : Bool := decide (r.c1 ≤ r.c2 ∧ r.r1 ≤ r.r2)
/-- The parts of a that are not in b. -/
def restL (a b : Rect) : List Rect := if meets a b then (fourR a b).filter fullR else [a]
set_option maxRecDepth 100000 in
theorem has_iff {r : Rect} {x : Ref} : hasB r x = true ↔ r.c1 ≤ x.col ∧ x.col ≤ r.c2 ∧ r.r1 ≤ x.row ∧ x.row ≤ r.r2 := by simp [hasB]
set_option maxRecDepth 100000 in
theorem ok_iff {r : Rect} : rectOk r = true ↔ 1 ≤ r.c1 ∧ r.c1 ≤ r.c2 ∧ r.c2 ≤ 1024 ∧ 1 ≤ r.r1 ∧ r.r1 ≤ r.r2 ∧ r.r2 ≤ 1024 := by simp [rectOk]
set_option maxRecDepth 100000 in
theorem rest_ok {a b : Rect} (ha : rectOk a = true) : ∀ p ∈ restL a b, rectOk p = true := by
  intro p hp
  unfold restL at hp
  split at hp
  · rename_i hm
    simp only [meets, Bool.and_eq_true] at hm
    obtain ⟨_, hb, hm⟩ := hm
    rw [ok_iff] at ha hb hm
    simp only [meetR] at hm
    obtain ⟨h1, h2⟩ := List.mem_filter.1 hp
    simp only [fullR, decide_eq_true_eq] at h2
    simp only [fourR, meetR, List.mem_cons, List.not_mem_nil, or_false] at h1
    rw [ok_iff]
    rcases h1 with rfl | rfl | rfl | rfl <;> simp only at h2 ⊢ <;> omega
  · simp at hp; rw [hp]; exact ha
set_option maxRecDepth 100000 in
theorem rest_has {a b : Rect} (ha : rectOk a = true) (hb : rectOk b = true) (x : Ref) : (∃ p ∈ restL a b, hasB p x = true) ↔ hasB a x = true ∧ hasB b x = false := by
  unfold restL
  split
  · rename_i hm
    simp only [meets, Bool.and_eq_true] at hm
    obtain ⟨_, _, hm⟩ := hm
    rw [ok_iff] at ha hb hm
    simp only [meetR] at hm
    rw [← Bool.not_eq_true, has_iff, has_iff]
    constructor
    · rintro ⟨p, hp, hx⟩
      obtain ⟨h1, h2⟩ := List.mem_filter.1 hp
      simp only [fourR, meetR, List.mem_cons, List.not_mem_nil, or_false] at h1
      rw [has_iff] at hx
      rcases h1 with rfl | rfl | rfl | rfl <;> simp only at hx <;> omega
    · rintro ⟨hxa, hxb⟩
      have key : x.row < max a.r1 b.r1 ∨ min a.r2 b.r2 < x.row ∨ (max a.r1 b.r1 ≤ x.row ∧ x.row ≤ min a.r2 b.r2 ∧ (x.col < max a.c1 b.c1 ∨ min a.c2 b.c2 < x.col)) := by omega
      rcases key with h | h | ⟨h1, h2, h | h⟩
      · exact ⟨⟨a.c1, a.r1, a.c2, max a.r1 b.r1 - 1⟩, List.mem_filter.2 ⟨by simp [fourR, meetR], by simp only [fullR, decide_eq_true_eq]; omega⟩, has_iff.2 (by simp only; omega)⟩
      · exact ⟨⟨a.c1, min a.r2 b.r2 + 1, a.c2, a.r2⟩, List.mem_filter.2 ⟨by simp [fourR, meetR], by simp only [fullR, decide_eq_true_eq]; omega⟩, has_iff.2 (by simp only; omega)⟩
      · exact ⟨⟨a.c1, max a.r1 b.r1, max a.c1 b.c1 - 1, min a.r2 b.r2⟩, List.mem_filter.2 ⟨by simp [fourR, meetR], by simp only [fullR, decide_eq_true_eq]; omega⟩, has_iff.2 (by simp only; omega)⟩
      · exact ⟨⟨min a.c2 b.c2 + 1, max a.r1 b.r1, a.c2, min a.r2 b.r2⟩, List.mem_filter.2 ⟨by simp [fourR, meetR], by simp only [fullR, decide_eq_true_eq]; omega⟩, has_iff.2 (by simp only; omega)⟩
  · rename_i hm
    simp only [meets, ha, hb, Bool.true_and] at hm
    simp only [Bool.not_eq_true] at hm
    rw [ok_iff] at ha hb
    have hm' : ¬ (1 ≤ max a.c1 b.c1 ∧ max a.c1 b.c1 ≤ min a.c2 b.c2 ∧ min a.c2 b.c2 ≤ 1024 ∧ 1 ≤ max a.r1 b.r1 ∧ max a.r1 b.r1 ≤ min a.r2 b.r2 ∧ min a.r2 b.r2 ≤ 1024) := by
      intro h; rw [ok_iff.2 h] at hm; cases hm
    rw [← Bool.not_eq_true (hasB b x), has_iff (r := b)]
    constructor
    · rintro ⟨p, hp, hx⟩
      simp only [List.mem_singleton] at hp
      subst hp
      refine ⟨hx, ?_⟩
      rw [has_iff] at hx
      omega
    · rintro ⟨h, _⟩
      exact ⟨a, by simp, h⟩

/-- One range taken away from all that is left, in the program's order. -/
def stepL (left : List Rect) (x : Rect) : List Rect := left.reverse.flatMap fun p => restL p x
def leftL (r : Rect) (l : List Rect) : List Rect := l.foldl stepL [r]
set_option maxRecDepth 100000 in
theorem step_ok {left : List Rect} {x : Rect} (h : ∀ p ∈ left, rectOk p = true) : ∀ p ∈ stepL left x, rectOk p = true := by
  intro p hp
  obtain ⟨q, hq, hpq⟩ := List.mem_flatMap.1 hp
  exact rest_ok (h q (List.mem_reverse.1 hq)) p hpq
set_option maxRecDepth 100000 in
theorem step_has {left : List Rect} {y : Rect} (h : ∀ p ∈ left, rectOk p = true) (hy : rectOk y = true) (x : Ref) : (∃ p ∈ stepL left y, hasB p x = true) ↔ (∃ p ∈ left, hasB p x = true) ∧ hasB y x = false := by
  constructor
  · rintro ⟨p, hp, hx⟩
    obtain ⟨q, hq, hpq⟩ := List.mem_flatMap.1 hp
    have hq' := List.mem_reverse.1 hq
    have := (rest_has (h q hq') hy x).1 ⟨p, hpq, hx⟩
    exact ⟨⟨q, hq', this.1⟩, this.2⟩
  · rintro ⟨⟨q, hq, hx⟩, hn⟩
    obtain ⟨p, hp, hpx⟩ := (rest_has (h q hq) hy x).2 ⟨hx, hn⟩
    exact ⟨p, List.mem_flatMap.2 ⟨q, List.mem_reverse.2 hq, hp⟩, hpx⟩
set_option maxRecDepth 100000 in
theorem left_spec : ∀ (l : List Rect) (left : List Rect), (∀ p ∈ left, rectOk p = true) → (∀ y ∈ l, rectOk y = true) →
    (∀ p ∈ l.foldl stepL left, rectOk p = true) ∧ ∀ x, (∃ p ∈ l.foldl stepL left, hasB p x = true) ↔ (∃ p ∈ left, hasB p x = true) ∧ ∀ y ∈ l, hasB y x = false := by
  intro l
  induction l with
  | nil => intro left h _; exact ⟨h, fun x => by simp⟩
  | cons y l ih =>
    intro left h hl
    obtain ⟨h1, h2⟩ := ih (stepL left y) (step_ok h) (fun z hz => hl z (by simp [hz]))
    refine ⟨h1, fun x => ?_⟩
    rw [List.foldl_cons, h2 x, step_has h (hl y (by simp)) x]
    constructor
    · rintro ⟨⟨a, b⟩, c⟩
      exact ⟨a, fun z hz => by rcases List.mem_cons.1 hz with rfl | hz; exact b; exact c z hz⟩
    · rintro ⟨a, c⟩
      exact ⟨⟨a, c y (by simp)⟩, fun z hz => c z (by simp [hz])⟩
set_option maxRecDepth 100000 in
/-- Nothing is left exactly if each address of r is in one of the ranges. -/
theorem left_nil {r : Rect} {l : List Rect} (hr : rectOk r = true) (hl : ∀ y ∈ l, rectOk y = true) : leftL r l = [] ↔ ∀ x, hasB r x = true → ∃ y ∈ l, hasB y x = true := by
  obtain ⟨h1, h2⟩ := left_spec l [r] (by simp [hr]) hl
  constructor
  · intro h x hx
    have := h2 x
    rw [show l.foldl stepL [r] = [] from h] at this
    by_cases hh : ∃ y ∈ l, hasB y x = true
    · exact hh
    · exfalso
      have hf := this.2 ⟨⟨r, by simp, hx⟩, fun y hy => by
        cases hb : hasB y x with
        | false => rfl
        | true => exact absurd ⟨y, hy, hb⟩ hh⟩
      obtain ⟨p, hp, _⟩ := hf
      simp at hp
  · intro h
    cases hl' : leftL r l with
    | nil => rfl
    | cons p ps =>
      exfalso
      have hp : p ∈ l.foldl stepL [r] := by show p ∈ leftL r l; rw [hl']; simp
      have hok := ok_iff.1 (h1 p hp)
      have hx : hasB p ⟨p.c1, p.r1⟩ = true := has_iff.2 (by simp only; omega)
      obtain ⟨⟨q, hq, hqx⟩, hn⟩ := (h2 ⟨p.c1, p.r1⟩).1 ⟨p, hp, hx⟩
      simp only [List.mem_singleton] at hq
      subst hq
      obtain ⟨y, hy, hyx⟩ := h _ hqx
      rw [hn y hy] at hyx
      cases hyx

end Go.Proofs.Ytonangdimkgdpaa
