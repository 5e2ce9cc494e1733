/- Plain laws of the addresses that stand for all others. No program in sight. -/
import Derived.Test.YtfacimebfdeaeaaRectMath
namespace Go.Proofs.Ytfacimebfdeaeaa

/-- The numbers lo, lo + 1 .. before lo + n that are cuts. -/
def cutsN (lo : Int) (bs : List Int) (n : Nat) : List Int := ((List.range n).map fun (i : Nat) => lo + (i : Int)).filter fun x => x == lo || bs.contains x
def cutsL (lo hi : Int) (bs : List Int) : List Int := cutsN lo bs (hi - lo + 1).toNat
set_option maxRecDepth 100000 in
theorem mem_cuts {lo hi : Int} {bs : List Int} {x : Int} : x ∈ cutsL lo hi bs ↔ lo ≤ x ∧ x ≤ hi ∧ (x = lo ∨ x ∈ bs) := by
  unfold cutsL cutsN
  rw [List.mem_filter, List.mem_map]
  constructor
  · rintro ⟨⟨i, hi, rfl⟩, h⟩
    rw [List.mem_range] at hi
    simp only [Bool.or_eq_true, beq_iff_eq, List.contains_iff_mem] at h
    exact ⟨by omega, by omega, h⟩
  · rintro ⟨h1, h2, h3⟩
    refine ⟨⟨(x - lo).toNat, by rw [List.mem_range]; omega, by omega⟩, ?_⟩
    simp only [Bool.or_eq_true, beq_iff_eq, List.contains_iff_mem]
    exact h3
set_option maxRecDepth 100000 in
/-- Below each number there is a cut with no beginning between. -/
theorem cut_below {lo hi : Int} {bs : List Int} : ∀ (n : Nat), lo + n ≤ hi → ∃ c ∈ cutsL lo hi bs, c ≤ lo + n ∧ ∀ b ∈ bs, b ≤ lo + n → b ≤ c := by
  intro n
  induction n with
  | zero =>
    intro h
    exact ⟨lo, mem_cuts.2 ⟨Int.le_refl _, by omega, .inl rfl⟩, by omega, fun b _ hb => by omega⟩
  | succ n ih =>
    intro h
    by_cases hm : lo + ((n : Int) + 1) ∈ bs
    · exact ⟨lo + ((n : Int) + 1), mem_cuts.2 ⟨by omega, by omega, .inr hm⟩, by omega, fun b _ hb => by omega⟩
    · obtain ⟨c, hc, h1, h2⟩ := ih (by omega)
      refine ⟨c, hc, by omega, fun b hb hle => ?_⟩
      by_cases e : b = lo + ((n : Int) + 1)
      · exact absurd (e ▸ hb) hm
      · exact h2 b hb (by omega)
def colsOf (l : List Rule) : List Int := l.flatMap fun x => [x.rect.c1, x.rect.c2 + 1]
def rowsOf (l : List Rule) : List Int := l.flatMap fun x => [x.rect.r1, x.rect.r2 + 1]
def pointsL (r : Rect) (l : List Rule) : List Ref := (cutsL r.r1 r.r2 (rowsOf l)).flatMap fun a => (cutsL r.c1 r.c2 (colsOf l)).map fun b => ⟨b, a⟩
set_option maxRecDepth 100000 in
theorem points_in {r : Rect} {l : List Rule} {q : Ref} (h : q ∈ pointsL r l) : hasB r q = true := by
  obtain ⟨a, ha, hq⟩ := List.mem_flatMap.1 h
  obtain ⟨b, hb, rfl⟩ := List.mem_map.1 hq
  rw [mem_cuts] at ha hb
  exact has_iff.2 ⟨hb.1, hb.2.1, ha.1, ha.2.1⟩
set_option maxRecDepth 100000 in
theorem points_stand {r : Rect} {l : List Rule} {p : Ref} (hp : hasB r p = true) : ∃ q ∈ pointsL r l, ∀ x ∈ l, hasB x.rect p = hasB x.rect q := by
  rw [has_iff] at hp
  obtain ⟨h1, h2, h3, h4⟩ := hp
  obtain ⟨c, hc, c1, c2⟩ := cut_below (lo := r.c1) (hi := r.c2) (bs := colsOf l) (p.col - r.c1).toNat (by omega)
  obtain ⟨a, ha, a1, a2⟩ := cut_below (lo := r.r1) (hi := r.r2) (bs := rowsOf l) (p.row - r.r1).toNat (by omega)
  have e1 : r.c1 + ((p.col - r.c1).toNat : Int) = p.col := by omega
  have e2 : r.r1 + ((p.row - r.r1).toNat : Int) = p.row := by omega
  rw [e1] at c1 c2
  rw [e2] at a1 a2
  refine ⟨⟨c, a⟩, List.mem_flatMap.2 ⟨a, ha, List.mem_map.2 ⟨c, hc, rfl⟩⟩, fun x hx => ?_⟩
  have m1 : x.rect.c1 ∈ colsOf l := List.mem_flatMap.2 ⟨x, hx, by simp⟩
  have m2 : x.rect.c2 + 1 ∈ colsOf l := List.mem_flatMap.2 ⟨x, hx, by simp⟩
  have m3 : x.rect.r1 ∈ rowsOf l := List.mem_flatMap.2 ⟨x, hx, by simp⟩
  have m4 : x.rect.r2 + 1 ∈ rowsOf l := List.mem_flatMap.2 ⟨x, hx, by simp⟩
  have b1 := c2 _ m1
  have b2 := c2 _ m2
  have b3 := a2 _ m3
  have b4 := a2 _ m4
  rw [Bool.eq_iff_iff, has_iff, has_iff]
  simp only
  constructor
  · rintro ⟨q1, q2, q3, q4⟩
    exact ⟨b1 q1, by omega, b3 q3, by omega⟩
  · rintro ⟨q1, q2, q3, q4⟩
    refine ⟨by omega, ?_, by omega, ?_⟩
    · apply Int.not_lt.1; intro h; have := b2 (by omega); omega
    · apply Int.not_lt.1; intro h; have := b4 (by omega); omega

end Go.Proofs.Ytfacimebfdeaeaa
