/- Graphs of nodes as graphs of numbers. No condition. -/
import Derived.Test.YtfokjpmcifkoeaaCD
import Derived.Test.YtfokjpmcifkoeaaPlain
namespace Go.Proofs.Ytfokjpmcifkoeaa
open Pv Go.RowKit Scc
def bval (b : Bool) : List Value := [.bool b]
/-- A valid graph's numbers. -/
def intR (r : List Nat) : List Int := r.map Int.ofNat
abbrev intG (N : G) : List (List Int) := N.map intR
set_option maxRecDepth 100000 in
theorem intG_at {N : G} {i : Nat} {r : List Nat} (h : N[i]? = some r) : (intG N)[i]? = some (intR r) := by rw [List.getElem?_map, h]; rfl
set_option maxRecDepth 100000 in
theorem getD_of {α : Type} {l : List α} {i : Nat} {r d : α} (h : l[i]? = some r) : l.getD i d = r := by rw [List.getD_eq_getElem?_getD, h]; rfl
set_option maxRecDepth 100000 in
theorem edge_of {N : G} {i k x : Nat} {r : List Nat} (h : N[i]? = some r) (hx : r[k]? = some x) : edge N i x := by unfold edge; rw [getD_of h]; exact List.mem_of_getElem? hx
set_option maxRecDepth 100000 in
theorem valid_nat {g : List (List Int)} (h : validG g = true) : ∃ N : G, GOk N ∧ g = intG N := by
  refine ⟨g.map (·.map Int.toNat), ?_, ?_⟩
  · intro i k e
    unfold edge at e
    rw [List.getD_eq_getElem?_getD, List.getElem?_map] at e
    cases hr : g[i]? with
    | none => rw [hr] at e; cases e
    | some r =>
      rw [hr] at e
      obtain ⟨y, hy, rfl⟩ := List.mem_map.1 (show k ∈ r.map Int.toNat from e)
      have := of_decide_eq_true (List.all_eq_true.1 (List.all_eq_true.1 h r (List.mem_of_getElem? hr)) y hy)
      rw [List.length_map]; omega
  · unfold intG
    rw [List.map_map]
    refine ((List.map_congr_left fun r hr => ?_).trans (List.map_id _)).symm
    show (r.map Int.toNat).map Int.ofNat = r
    rw [List.map_map]
    refine (List.map_congr_left fun y hy => ?_).trans (List.map_id _)
    have := of_decide_eq_true (List.all_eq_true.1 (List.all_eq_true.1 h r hr) y hy)
    show ((y.toNat : Nat) : Int) = y
    omega
set_option maxRecDepth 100000 in
theorem rep_map (n : Nat) : List.replicate n [Value.bool false] = (List.replicate n false).map bval := by rw [List.map_replicate]; rfl
set_option maxRecDepth 100000 in
theorem intR_snoc (l : List Nat) (k : Nat) : (intR l).map ival ++ [[.int .i64 (k : Int)]] = (intR (l ++ [k])).map ival := by simp [intR, ival]
set_option maxRecDepth 100000 in
theorem valid_intG {N : G} (hN : GOk N) : validG (intG N) = true := validG_of fun j y hj hy => rowOk_of fun k z hk hz => by
  rw [List.getElem?_map] at hy
  cases hq : N[j]? with
  | none => rw [hq] at hy; cases hy
  | some q =>
    rw [hq] at hy
    injection hy with hy
    subst hy
    unfold intR at hz
    rw [List.getElem?_map] at hz
    cases hx : q[k]? with
    | none => rw [hx] at hz; cases hz
    | some x =>
      rw [hx] at hz
      injection hz with hz
      subst hz
      have := hN _ _ (edge_of hq hx)
      rw [List.length_map]
      exact ⟨Int.natCast_nonneg _, Int.ofNat_lt.2 this⟩
set_option maxRecDepth 100000 in
theorem int_at {L : List Nat} {k : Nat} (hk : k < L.length) : ((intR L).map ival)[k]? = some [.int .i64 ((L.getD k 0 : Nat) : Int)] := by
  unfold intR
  rw [List.getElem?_map, List.getElem?_map, List.getD_eq_getElem?_getD, List.getElem?_eq_getElem hk]; rfl
set_option maxRecDepth 100000 in
theorem int_get {L : List Nat} {k x : Nat} (h : L[k]? = some x) : ((intR L).map ival)[k]? = some [.int .i64 (x : Int)] := by
  unfold intR
  rw [List.getElem?_map, List.getElem?_map, h]; rfl
set_option maxRecDepth 100000 in
theorem int_set (L : List Nat) (k x : Nat) : ((intR L).map ival).set k [.int .i64 (x : Int)] = (intR (L.set k x)).map ival := by
  unfold intR
  rw [List.map_set, List.map_set]; rfl
set_option maxRecDepth 100000 in
theorem rep_int (n : Nat) : List.replicate n [Value.int .i64 0] = (intR (List.replicate n 0)).map ival := by unfold intR; rw [List.map_replicate, List.map_replicate]; rfl
end Go.Proofs.Ytfokjpmcifkoeaa
