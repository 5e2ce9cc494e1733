/- The edges that lead to smaller places: a graph in which no node reaches itself. No condition. -/
import Derived.Test.YtfokjpmcifkoeaaPartM
import Derived.Test.YtfokjpmcifkoeaaPlain
namespace Go.Proofs.Ytfokjpmcifkoeaa.Scc
def dnf (p : Nat → Int) (x : Nat) (r : List Nat) : List Nat := r.filter fun z => decide (p z < p x)
/-- The row of x when the rows below i and k places of the row i are done. -/
def dnP (N : G) (p : Nat → Int) (i k x : Nat) : List Nat := if x < i then dnf p x (N.getD x []) else if x = i then dnf p x ((N.getD x []).take k) else []
def downN (N : G) (p : Nat → Int) : G := (List.range N.length).map fun x => dnf p x (N.getD x [])
set_option maxRecDepth 100000 in
theorem dnP_zero (N : G) (p : Nat → Int) (x : Nat) : dnP N p 0 0 x = [] := by
  unfold dnP
  rw [if_neg (Nat.not_lt_zero _)]
  split <;> simp [dnf]
set_option maxRecDepth 100000 in
theorem dnP_next {N : G} {p : Nat → Int} {i k y : Nat} (h : (N.getD i [])[k]? = some y) (x : Nat) : dnP N p i (k + 1) x = if x = i ∧ p y < p i then dnP N p i k x ++ [y] else dnP N p i k x := by
  unfold dnP
  by_cases e : x = i
  · subst e
    rw [if_neg (Nat.lt_irrefl _), if_pos rfl, if_neg (Nat.lt_irrefl _), if_pos rfl, List.take_add_one, h]
    unfold dnf
    rw [List.filter_append]
    by_cases hp : p y < p x
    · rw [if_pos ⟨rfl, hp⟩]; simp [hp]
    · rw [if_neg fun q => hp q.2]; simp [hp]
  · have hne : ¬(x = i ∧ p y < p i) := fun q => e q.1
    rw [if_neg hne, if_neg e, if_neg e]
set_option maxRecDepth 100000 in
theorem dnP_row (N : G) (p : Nat → Int) (i x : Nat) : dnP N p i (N.getD i []).length x = dnP N p (i + 1) 0 x := by
  unfold dnP
  by_cases h1 : x < i
  · rw [if_pos h1, if_pos (by omega)]
  · rw [if_neg h1]
    by_cases h2 : x = i
    · subst h2
      rw [if_pos rfl, if_pos (by omega), List.take_length]
    · rw [if_neg h2, if_neg (by omega)]
      split <;> simp [dnf]
set_option maxRecDepth 100000 in
theorem dnP_all {N : G} {p : Nat → Int} {x : Nat} (h : x < N.length) : dnP N p N.length 0 x = dnf p x (N.getD x []) := by unfold dnP; rw [if_pos h]
set_option maxRecDepth 100000 in
theorem dnf_len (p : Nat → Int) (x : Nat) (r : List Nat) : (dnf p x r).length ≤ r.length := List.length_filter_le ..
set_option maxRecDepth 100000 in
theorem dnP_len {N : G} {p : Nat → Int} {B : Nat} (h : ∀ j, (N.getD j []).length ≤ B) (i k x : Nat) : (dnP N p i k x).length ≤ B := by
  unfold dnP
  have h1 := h x
  split
  · exact Nat.le_trans (dnf_len ..) h1
  · split
    · refine Nat.le_trans (dnf_len ..) ?_
      rw [List.length_take]; omega
    · exact Nat.zero_le _
set_option maxRecDepth 100000 in
theorem down_len (N : G) (p : Nat → Int) : (downN N p).length = N.length := by simp [downN]
set_option maxRecDepth 100000 in
theorem down_at {N : G} {p : Nat → Int} {x : Nat} (h : x < N.length) : (downN N p).getD x [] = dnf p x (N.getD x []) := by
  unfold downN
  rw [List.getD_eq_getElem?_getD, List.getElem?_map, List.getElem?_range h]; rfl
set_option maxRecDepth 100000 in
theorem down_edge {N : G} {p : Nat → Int} {x z : Nat} : edge (downN N p) x z ↔ edge N x z ∧ p z < p x := by
  by_cases h : x < N.length
  · unfold edge
    rw [down_at h]
    simp [dnf]
  · refine ⟨fun e => absurd (edge_lt e) (by rw [down_len]; exact h), fun e => absurd (edge_lt e.1) h⟩
set_option maxRecDepth 100000 in
theorem down_ok {N : G} (hN : GOk N) {p : Nat → Int} : GOk (downN N p) := fun x z e => by rw [down_len]; exact hN x z (down_edge.1 e).1
set_option maxRecDepth 100000 in
theorem down_reach {N : G} {p : Nat → Int} {x y : Nat} (h : Reach (downN N p) x y) : p y ≤ p x := by
  induction h with
  | refl => exact Int.le_refl _
  | tail _ e ih => exact Int.le_trans (Int.le_of_lt (down_edge.1 e).2) ih
set_option maxRecDepth 100000 in
theorem down_acyc {N : G} (hN : GOk N) {p : Nat → Int} : Acyc (downN N p) := fun i => by
  cases hb : R (downN N p) i i with
  | false => rfl
  | true =>
    obtain ⟨k, e, r⟩ := (R_iff (down_ok hN) i i).1 hb
    have h1 := down_reach r
    have h2 := (down_edge.1 e).2
    omega
set_option maxRecDepth 100000 in
theorem acyc_loops {g : G} (h : Acyc g) : loopsN g = [] := by
  unfold loopsN
  exact List.filter_eq_nil_iff.2 fun i _ => by rw [h i]; decide
set_option maxRecDepth 100000 in
theorem down_loops {N : G} (hN : GOk N) {p : Nat → Int} : loopsN (downN N p) = [] := acyc_loops (down_acyc hN)
set_option maxRecDepth 100000 in
theorem down_rows {N : G} {p : Nat → Int} {B : Nat} (h : ∀ j, (N.getD j []).length ≤ B) : ∀ r ∈ downN N p, r.length ≤ B := fun r hr => by
  obtain ⟨x, _, rfl⟩ := List.mem_map.1 hr
  exact Nat.le_trans (dnf_len ..) (h x)
/-- The place of a node. -/
def placeF (rank : List Int) (x : Nat) : Int := match rank[x]? with
  | some y => y.tmod 100 * 100 + x
  | none => x
def placeU (rank : List Int) (i x : Nat) : Int := if x < i then placeF rank x else 0
end Go.Proofs.Ytfokjpmcifkoeaa.Scc
