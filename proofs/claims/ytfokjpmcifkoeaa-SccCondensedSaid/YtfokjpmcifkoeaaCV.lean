/- The law's helpers says and awake, and what both sides give at any small graph. No condition. -/
import Derived.Test.YtfokjpmcifkoeaaNames
import Derived.Test.YtfokjpmcifkoeaaAwake
import Derived.Test.YtfokjpmcifkoeaaCU
namespace Go.Proofs.Ytfokjpmcifkoeaa
open Pv Go.RowKit Scc
set_option maxRecDepth 100000 in
theorem comps_small {N : G} : (comps N).length ≤ N.length ∧ ∀ r ∈ comps N, r.length ≤ N.length := ⟨comps_len, fun _ h => comp_len h⟩
set_option maxRecDepth 100000 in
theorem cond_small {N : G} : (condN N).length ≤ N.length ∧ ∀ r ∈ condN N, r.length ≤ N.length := by
  have hcl := comps_len (g := N)
  refine ⟨by simp [condN]; omega, fun r h => ?_⟩
  obtain ⟨a, _, rfl⟩ := List.mem_map.1 h
  have : (condRow N a).length ≤ (comps N).length := by unfold condRow; exact Nat.le_trans (List.length_filter_le ..) (by simp)
  omega
set_option maxRecDepth 100000 in
theorem loops_small {N : G} : (loopsN N).length ≤ N.length := by unfold loopsN; exact Nat.le_trans (List.length_filter_le ..) (by simp)
set_option maxRecDepth 100000 in
theorem int_small {M : G} {n : Nat} (h : M.length ≤ n ∧ ∀ r ∈ M, r.length ≤ n) : (intG M).length ≤ n ∧ ∀ r ∈ intG M, r.length ≤ n := by
  refine ⟨by rw [List.length_map]; exact h.1, fun r hr => ?_⟩
  obtain ⟨q, hq, rfl⟩ := List.mem_map.1 hr
  rw [intR, List.length_map]; exact h.2 q hq
set_option maxRecDepth 100000 in
theorem says (N : G) (hN : GOk N) (hn : N.length ≤ 1000) (hr : ∀ r ∈ N, r.length < 1000) (C D : List (List Int)) (L : List Int) (hC : C.length < 1000000000) (hD : D.length < 1000000000) (hL : L.length < 1000000000) (hCr : ∀ r ∈ C, r.length < 1000000000) (hDr : ∀ r ∈ D, r.length < 1000000000) : Pure Try.prog 22 [graph (intG N), graph C, ints L, graph D] (.s (.v (.bool (decide (intG (comps N) = C) && (decide (intR (loopsN N) = L) && decide (intG (condN N) = D)))))) := by
  have h1 := sccComps N hN (by omega) (fun r h => by have := hr r h; omega)
  have h2 := sccLoops N hN (by omega) (fun r h => by have := hr r h; omega)
  have h3 := sccCond N hN hn hr
  have z1 := int_small (comps_small (N := N))
  have z2 := int_small (cond_small (N := N))
  have z3 := loops_small (N := N)
  exact says0 h1 h2 h3 C D L (equalInts2 _ C (by omega) (by omega) (fun r h => by have := z1.2 r h; omega) (fun r h => by have := hCr r h; omega)) (equalInts _ L (by rw [intR, List.length_map]; omega) (by omega)) (equalInts2 _ D (by omega) (by omega) (fun r h => by have := z2.2 r h; omega) (fun r h => by have := hDr r h; omega))
def smallB (C : List (List Int)) : Bool := Nat.blt C.length 1000000000 && C.all fun r => Nat.blt r.length 1000000000
set_option maxRecDepth 100000 in
theorem small_of {C : List (List Int)} (h : smallB C = true) : C.length < 1000000000 ∧ ∀ r ∈ C, r.length < 1000000000 := by
  have h := (Bool.and_eq_true _ _ ▸ h : _ ∧ _)
  exact ⟨Nat.blt_eq ▸ h.1, fun r hr => Nat.blt_eq ▸ List.all_eq_true.1 h.2 r hr⟩
def okB (N : G) : Bool := N.all fun r => r.all fun x => Nat.blt x N.length
set_option maxRecDepth 100000 in
theorem ok_of {N : G} (h : okB N = true) : GOk N := by
  intro i k e
  unfold edge at e
  rw [List.getD_eq_getElem?_getD] at e
  cases hr : N[i]? with
  | none => rw [hr] at e; cases e
  | some r =>
    rw [hr] at e
    exact Nat.blt_eq ▸ List.all_eq_true.1 (List.all_eq_true.1 h r (List.mem_of_getElem? hr)) k e
/-- All that says asks at an example. -/
def saysB (N : G) (C D : List (List Int)) (L : List Int) : Bool := okB N && (Nat.ble N.length 1000 && (N.all (fun r => Nat.blt r.length 1000) && (smallB C && (smallB D && (Nat.blt L.length 1000000000 && (decide (intG (comps N) = C) && (decide (intR (loopsN N) = L) && decide (intG (condN N) = D))))))))
set_option maxRecDepth 100000 in
theorem says_at (N : G) (C D : List (List Int)) (L : List Int) (h : saysB N C D L = true) : Pure Try.prog 22 [graph (intG N), graph C, ints L, graph D] (.s (.v (.bool true))) := by
  obtain ⟨h1, h⟩ := (Bool.and_eq_true _ _ ▸ h : _ ∧ _)
  obtain ⟨h2, h⟩ := (Bool.and_eq_true _ _ ▸ h : _ ∧ _)
  obtain ⟨h3, h⟩ := (Bool.and_eq_true _ _ ▸ h : _ ∧ _)
  obtain ⟨h4, h⟩ := (Bool.and_eq_true _ _ ▸ h : _ ∧ _)
  obtain ⟨h5, h⟩ := (Bool.and_eq_true _ _ ▸ h : _ ∧ _)
  obtain ⟨h6, h⟩ := (Bool.and_eq_true _ _ ▸ h : _ ∧ _)
  have := says N (ok_of h1) (Nat.le_of_ble_eq_true h2) (fun r hr => Nat.blt_eq ▸ List.all_eq_true.1 h3 r hr) C D L (small_of h4).1 (small_of h5).1 (Nat.blt_eq ▸ h6) (small_of h4).2 (small_of h5).2
  rwa [h] at this
set_option maxRecDepth 100000 in
theorem compsE_at (y : Int) (g : List (List Int)) (hg : g = [[0], [1, y]]) (hv : validG g = false) : Pure Try.prog 19 [graph g] (.tup [graphR [], .v (.int .i64 3)]) ∧ Pure Try.prog 20 [graph g] (.tup [intsR [], .v (.int .i64 3)]) ∧ Pure Try.prog 21 [graph g] (.tup [graphR [], .v (.int .i64 3)]) := by
  have h1 : g.length < 1000000000 := by rw [hg]; exact (by decide : 2 < 1000000000)
  have h2 : ∀ r ∈ g, r.length < 10000000000 := by rw [hg]; simp
  exact ⟨sccCompsE g h1 h2 hv, sccLoopsE g h1 h2 hv, sccCondE g h1 h2 hv⟩
set_option maxRecDepth 100000 in
theorem awake : Pure Try.prog 23 [] (.s (.v (.bool true))) :=
  awake0 (sccCompsE [[1]] (by decide) (by simp) (by decide)) (says_at [[1], [2], [0], [2]] [[0, 1, 2], [3]] [[], [0]] [0, 1, 2] (by kernel_rfl)) (says_at [[0], [0, 0]] [[0], [1]] [[], [0]] [0] (by kernel_rfl))
/-! ### a ring -/
def ringG : G := (List.range 50).map fun i => [(i + 1) % 50]
set_option maxRecDepth 100000 in
theorem ring_at {i : Nat} (h : i < 50) : ringG.getD i [] = [(i + 1) % 50] := by
  unfold ringG
  rw [List.getD_eq_getElem?_getD, List.getElem?_map, List.getElem?_range h]; rfl
set_option maxRecDepth 100000 in
theorem ring_reach {i : Nat} (h : i < 50) : ∀ m, Scc.Reach ringG i ((i + m) % 50)
  | 0 => by rw [Nat.add_zero, Nat.mod_eq_of_lt h]; exact .refl _
  | m + 1 => by
    refine (ring_reach h m).tail ?_
    unfold edge
    rw [ring_at (Nat.mod_lt _ (by decide)), List.mem_singleton]
    omega
set_option maxRecDepth 100000 in
theorem ring_ok : GOk ringG := ok_of (by kernel_rfl)
set_option maxRecDepth 100000 in
theorem ring_R {i k : Nat} (hi : i < 50) (hk : k < 50) : R ringG i k = true := by
  rw [R_iff ring_ok]
  refine ⟨(i + 1) % 50, ?_, ?_⟩
  · unfold edge; rw [ring_at hi]; exact List.mem_singleton.2 rfl
  · have := ring_reach (i := (i + 1) % 50) (Nat.mod_lt _ (by decide)) (k + 99 - i)
    rwa [show ((i + 1) % 50 + (k + 99 - i)) % 50 = k by omega] at this
set_option maxRecDepth 100000 in
theorem ring_same {i k : Nat} (hi : i < 50) (hk : k < 50) : sameC ringG i k = true := by unfold sameC; rw [ring_R hi hk, ring_R hk hi]; simp
set_option maxRecDepth 100000 in
theorem ring_len : ringG.length = 50 := by simp [ringG]
set_option maxRecDepth 100000 in
theorem ring_comps : comps ringG = [List.range 50] := by
  have h1 : leads ringG = [0] := by
    unfold leads
    rw [ring_len, show (List.range 50).filter (isLead ringG) = (List.range 50).filter (fun i => i == 0) from List.filter_congr fun i hi => ?_]
    · rfl
    · have hi := List.mem_range.1 hi
      unfold isLead
      cases i with
      | zero => rfl
      | succ i =>
        rw [show ((i + 1 == 0) : Bool) = false from rfl]
        refine List.all_eq_false.2 ⟨0, List.mem_range.2 (by omega), ?_⟩
        rw [ring_same (by decide) hi]; simp
  unfold comps
  rw [h1]
  show [classOf ringG 0] = _
  unfold classOf
  rw [ring_len, List.filter_eq_self.2 fun k hk => ring_same (by decide) (List.mem_range.1 hk)]
set_option maxRecDepth 100000 in
theorem ring_loops : loopsN ringG = List.range 50 := by
  unfold loopsN
  rw [ring_len, List.filter_eq_self.2 fun k hk => ring_R (List.mem_range.1 hk) (List.mem_range.1 hk)]
set_option maxRecDepth 100000 in
theorem ring_cond : condN ringG = [[]] := by
  unfold condN
  rw [ring_comps]
  show [condRow ringG 0] = [[]]
  unfold condRow
  rw [ring_comps]
  rfl
set_option maxRecDepth 100000 in
theorem ring_says : Pure Try.prog 22 [graph (ringN 50), graph [wholeN 50], ints (wholeN 50), graph [[]]] (.s (.v (.bool true))) := by
  have := says ringG ring_ok (by rw [ring_len]; decide) (fun r hr => by
    obtain ⟨i, _, rfl⟩ := List.mem_map.1 hr
    exact (by decide : 1 < 1000)) [wholeN 50] [[]] (wholeN 50) (by decide) (by decide) (by rw [wholeN_l]; decide) (fun r hr => by rw [List.mem_singleton.1 hr, wholeN_l]; decide) (fun r hr => by rw [List.mem_singleton.1 hr]; decide)
  rw [ring_comps, ring_loops, ring_cond] at this
  rwa [show (decide (intG [List.range 50] = [wholeN 50]) && (decide (intR (List.range 50) = wholeN 50) && decide (intG [[]] = [[]]))) = true from by kernel_rfl, show intG ringG = ringN 50 from by kernel_rfl] at this
set_option maxRecDepth 100000 in
theorem names : Pure Try.prog 5 [] (.s (.v (.bool true))) := by
  refine names0 (fun y hy => ?_) (says_at [] [] [] [] (by kernel_rfl)) (says_at [[], []] [[0], [1]] [[], []] [] (by kernel_rfl)) ?_ ?_ awake
  · refine compsE_at y _ rfl ?_
    simp only [badsN, List.mem_cons, List.not_mem_nil, or_false] at hy
    rcases hy with rfl | rfl | rfl | rfl <;> decide
  · exact ring_says
  · exact says_at [[0], [1], [2]] ((allN 50).take 3) [[], [], []] [0, 1, 2] (by kernel_rfl)
end Go.Proofs.Ytfokjpmcifkoeaa
