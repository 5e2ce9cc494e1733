/- What the law SccParts asks, in plain words: arrays over the nodes, components, loops. No condition. -/
import Derived.Test.YtfokjpmcifkoeaaCD
import Derived.Test.YtfokjpmcifkoeaaCE0
import Derived.Test.YtfokjpmcifkoeaaPlain
namespace Go.Proofs.Ytfokjpmcifkoeaa
open Pv Go.RowKit Scc
/-- The numbers f 0 .. f (n - 1), as cells. -/
def arr (n : Nat) (f : Nat → Int) : List (List Value) := (List.range n).map fun x => [Value.int .i64 (f x)]
set_option maxRecDepth 100000 in
theorem arr_len (n : Nat) (f : Nat → Int) : (arr n f).length = n := by simp [arr]
set_option maxRecDepth 100000 in
theorem arr_wid (n : Nat) (f : Nat → Int) : ∀ e ∈ arr n f, e.length = 1 := map_len fun _ => rfl
set_option maxRecDepth 100000 in
theorem arr_at {n x : Nat} (f : Nat → Int) (h : x < n) : (arr n f)[x]? = some [.int .i64 (f x)] := by unfold arr; rw [List.getElem?_map, List.getElem?_range h]; rfl
set_option maxRecDepth 100000 in
theorem arr_ext {n : Nat} {f f' : Nat → Int} (h : ∀ x, x < n → f x = f' x) : arr n f = arr n f' := List.map_congr_left fun x hx => by rw [h x (List.mem_range.1 hx)]
set_option maxRecDepth 100000 in
theorem arr_set {n x : Nat} {f f' : Nat → Int} {v : Int} (h : ∀ y, y < n → y ≠ x → f' y = f y) (hx : f' x = v) : (arr n f).set x [.int .i64 v] = arr n f' := by
  refine List.ext_getElem? fun y => ?_
  rw [List.getElem?_set]
  by_cases hy : y < n
  · rw [arr_at f' hy]
    split
    · rename_i e; subst e; rw [if_pos (by rw [arr_len]; exact hy), hx]
    · rename_i e; rw [arr_at f hy, h y hy (fun e' => e e'.symm)]
  · rw [List.getElem?_eq_none (l := arr n f') (by rw [arr_len]; omega)]
    split
    · rw [if_neg (by rw [arr_len]; omega)]
    · exact List.getElem?_eq_none (by rw [arr_len]; omega)
set_option maxRecDepth 100000 in
theorem arr_rep (n : Nat) : List.replicate n [Value.int .i64 0] = arr n fun _ => 0 := by
  symm
  refine List.eq_replicate_iff.2 ⟨arr_len _ _, fun b hb => ?_⟩
  obtain ⟨x, _, rfl⟩ := List.mem_map.1 hb
  rfl
set_option maxRecDepth 100000 in
theorem fit_valid (g : List (List Int)) : ∃ N : G, GOk N ∧ fitG g = intG N ∧ N.length ≤ 24 ∧ ∀ r ∈ N, r.length ≤ 30 := by
  have hv : validG (fitG g) = true := by
    have hl : (fitG g).length = (cutG g).length := by simp [fitG]
    refine List.all_eq_true.2 fun r hr => List.all_eq_true.2 fun y hy => ?_
    obtain ⟨q, hq, rfl⟩ := List.mem_map.1 hr
    obtain ⟨z, _, rfl⟩ := List.mem_map.1 hy
    have := fitV_ok (cutG g).length (List.length_pos_of_mem hq) z
    exact decide_eq_true (by rw [hl]; exact this)
  obtain ⟨N, hN, e⟩ := valid_nat hv
  refine ⟨N, hN, e, ?_, fun r hr => ?_⟩
  · have := congrArg List.length e
    have h2 := cutG_len g
    simp [fitG] at this
    omega
  · have : intR r ∈ fitG g := by rw [e]; exact List.mem_map_of_mem hr
    obtain ⟨q, hq, e2⟩ := List.mem_map.1 this
    have h2 := cutG_row hq
    have := congrArg List.length e2
    simp [intR] at this
    omega
section
variable {N : G} (hN : GOk N)
include hN
end
/-- How many loops lie below i. -/
def cnt (N : G) (i : Nat) : Nat := ((List.range i).filter fun x => R N x x).length
end Go.Proofs.Ytfokjpmcifkoeaa
