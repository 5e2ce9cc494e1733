/- Which nodes are in an order, as Go's slice of bools. No condition. -/
import Derived.Test.YtfokjpmcifkoeaaCV0
import Derived.Test.YtfokjpmcifkoeaaPlain
namespace Go.Proofs.Ytfokjpmcifkoeaa
open Pv Go.RowKit Scc
/-- Which nodes are in an order. -/
def inB (n : Nat) (out : List Nat) : List (List Value) := (List.range n).map fun x => [Value.bool (out.contains x)]
set_option maxRecDepth 100000 in
theorem inB_len (n : Nat) (out : List Nat) : (inB n out).length = n := by simp [inB]
set_option maxRecDepth 100000 in
theorem inB_wid (n : Nat) (out : List Nat) : ∀ e ∈ inB n out, e.length = 1 := map_len fun _ => rfl
set_option maxRecDepth 100000 in
theorem inB_at {n x : Nat} (out : List Nat) (h : x < n) : (inB n out)[x]? = some [.bool (out.contains x)] := by unfold inB; rw [List.getElem?_map, List.getElem?_range h]; rfl
set_option maxRecDepth 100000 in
theorem inB_nil (n : Nat) : List.replicate n [Value.bool false] = inB n [] := by
  symm
  refine List.eq_replicate_iff.2 ⟨inB_len _ _, fun b hb => ?_⟩
  obtain ⟨x, _, rfl⟩ := List.mem_map.1 hb
  rfl
set_option maxRecDepth 100000 in
theorem inB_set {n i : Nat} (out : List Nat) (_h : i < n) : (inB n out).set i [.bool true] = inB n (out ++ [i]) := by
  refine List.ext_getElem? fun y => ?_
  rw [List.getElem?_set]
  by_cases hy : y < n
  · rw [show (inB n (out ++ [i]))[y]? = some [.bool ((out ++ [i]).contains y)] from inB_at _ hy]
    split
    · rename_i e
      subst e
      have h1 : (out ++ [i]).contains i = true := by simp
      rw [if_pos (by rw [inB_len]; exact hy), h1]
    · rename_i e
      have h1 : (out ++ [i]).contains y = out.contains y := by
        rw [Bool.eq_iff_iff]
        simp only [List.contains_iff_mem, List.mem_append, List.mem_singleton]
        exact ⟨fun h => h.resolve_right fun e' => e e'.symm, .inl⟩
      rw [inB_at _ hy, h1]
  · rw [List.getElem?_eq_none (l := inB n (out ++ [i])) (by rw [inB_len]; omega)]
    split
    · rw [if_neg (by rw [inB_len]; omega)]
    · exact List.getElem?_eq_none (by rw [inB_len]; omega)
set_option maxRecDepth 100000 in
theorem acyc_of {N : G} (hN : GOk N) (h : loopsN N = []) : Acyc N := fun i => by
  cases hb : R N i i with
  | false => rfl
  | true =>
    obtain ⟨k, e, _⟩ := (R_iff hN i i).1 hb
    have := List.filter_eq_nil_iff.1 h i (List.mem_range.2 (edge_lt e))
    exact absurd hb this
set_option maxRecDepth 100000 in
theorem chk_step (N : G) (out : List Nat) (z : Int) (l : List Int) (hz : 0 ≤ z) (hz2 : z < N.length) : chkL N out (z :: l) = (mayB N out z.toNat && chkL N (out ++ [z.toNat]) l) := by
  rw [chkL, decide_eq_true hz, decide_eq_true hz2]; rfl
end Go.Proofs.Ytfokjpmcifkoeaa
