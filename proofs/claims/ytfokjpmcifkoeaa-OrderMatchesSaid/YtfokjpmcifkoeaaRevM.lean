/- What the law SccReversed asks, in plain words: a graph with its edges reversed, one with its nodes renamed. No condition. -/
import Derived.Test.YtfokjpmcifkoeaaPartM
namespace Go.Proofs.Ytfokjpmcifkoeaa.Scc
/-! ### reversed -/
def cntRow (x i : Nat) (r : List Nat) : List Nat := (r.filter (· == x)).map fun _ => i
/-- The row of x when the rows below i and k places of the row i are done. -/
def backP (N : G) (i k x : Nat) : List Nat := ((List.range i).flatMap fun j => cntRow x j (N.getD j [])) ++ cntRow x i ((N.getD i []).take k)
set_option maxRecDepth 100000 in
theorem cntRow_len (x i : Nat) (r : List Nat) : (cntRow x i r).length ≤ r.length := by unfold cntRow; rw [List.length_map]; exact List.length_filter_le ..
set_option maxRecDepth 100000 in
theorem backP_next {N : G} {i k y : Nat} (h : (N.getD i [])[k]? = some y) (x : Nat) : backP N i (k + 1) x = if x = y then backP N i k x ++ [i] else backP N i k x := by
  unfold backP cntRow
  rw [List.take_add_one, h]
  simp only [Option.toList_some, List.filter_append, List.map_append]
  by_cases e : x = y
  · subst e; simp
  · rw [if_neg e]; simp [show (y == x) = false by simp; exact fun e' => e e'.symm]
set_option maxRecDepth 100000 in
theorem backP_row (N : G) (i x : Nat) : backP N i (N.getD i []).length x = backP N (i + 1) 0 x := by
  unfold backP
  rw [List.take_length, List.range_succ, List.flatMap_append]
  simp [cntRow]
set_option maxRecDepth 100000 in
theorem backP_zero (N : G) (x : Nat) : backP N 0 0 x = [] := by simp [backP, cntRow]
set_option maxRecDepth 100000 in
theorem backP_len {N : G} {B : Nat} (hr : ∀ i, (N.getD i []).length ≤ B) (i k x : Nat) : (backP N i k x).length ≤ (i + 1) * B := by
  have h1 : ∀ i, ((List.range i).flatMap fun j => cntRow x j (N.getD j [])).length ≤ i * B := by
    intro i
    induction i with
    | zero => simp
    | succ i ih =>
      rw [List.range_succ, List.flatMap_append, List.length_append, Nat.succ_mul]
      have h2 := cntRow_len x i (N.getD i [])
      have h3 := hr i
      simp only [List.flatMap_cons, List.flatMap_nil, List.append_nil]
      omega
  have h2 := cntRow_len x i ((N.getD i []).take k)
  have h3 := hr i
  have h4 := h1 i
  rw [List.length_take] at h2
  unfold backP
  rw [List.length_append, Nat.succ_mul]
  omega
set_option maxRecDepth 100000 in
theorem mem_back {N : G} {z x : Nat} : z ∈ backP N N.length 0 x ↔ edge N z x := by
  unfold backP cntRow edge
  simp only [List.take_zero, List.filter_nil, List.map_nil, List.append_nil, List.mem_flatMap, List.mem_range, List.mem_map, List.mem_filter, beq_iff_eq]
  constructor
  · rintro ⟨j, _, y, ⟨hy, rfl⟩, rfl⟩; exact hy
  · intro h
    exact ⟨z, edge_lt h, x, ⟨h, rfl⟩, rfl⟩
section
variable {N : G} (hN : GOk N)
include hN
end
/-! ### renamed -/
section
variable {N : G} (hN : GOk N) {b : Nat} (hb : b < N.length)
include hN
include hb
end
end Go.Proofs.Ytfokjpmcifkoeaa.Scc
