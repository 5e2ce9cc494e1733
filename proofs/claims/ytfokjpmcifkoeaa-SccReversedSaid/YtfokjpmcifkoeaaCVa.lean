/- The law's helpers says and awake. No condition. -/
import Derived.Test.YtfokjpmcifkoeaaAwake
import Derived.Test.YtfokjpmcifkoeaaCU
namespace Go.Proofs.Ytfokjpmcifkoeaa
open Pv Go.RowKit Scc
set_option maxRecDepth 100000 in
theorem comps_small {N : G} : (comps N).length ≤ N.length ∧ ∀ r ∈ comps N, r.length ≤ N.length := ⟨comps_len, fun _ h => comp_len h⟩
set_option maxRecDepth 100000 in
theorem cond_small {N : G} : (condN N).length ≤ N.length ∧ ∀ r ∈ condN N, r.length ≤ N.length := by
  have hcl := comps_len (g := N)
  refine ⟨by simp [condN]; omega, fun r h => ?_⟩
  obtain ⟨a, _, rfl⟩ := List.mem_map.1 h
  have : (condRow N a).length ≤ (comps N).length := by unfold condRow; exact Nat.le_trans (List.length_filter_le ..) (by simp)
  omega
set_option maxRecDepth 100000 in
theorem loops_small {N : G} : (loopsN N).length ≤ N.length := by unfold loopsN; exact Nat.le_trans (List.length_filter_le ..) (by simp)
set_option maxRecDepth 100000 in
theorem int_small {M : G} {n : Nat} (h : M.length ≤ n ∧ ∀ r ∈ M, r.length ≤ n) : (intG M).length ≤ n ∧ ∀ r ∈ intG M, r.length ≤ n := by
  refine ⟨by rw [List.length_map]; exact h.1, fun r hr => ?_⟩
  obtain ⟨q, hq, rfl⟩ := List.mem_map.1 hr
  rw [intR, List.length_map]; exact h.2 q hq
set_option maxRecDepth 100000 in
theorem says (N : G) (hN : GOk N) (hn : N.length ≤ 1000) (hr : ∀ r ∈ N, r.length < 1000) (C D : List (List Int)) (L : List Int) (hC : C.length < 1000000000) (hD : D.length < 1000000000) (hL : L.length < 1000000000) (hCr : ∀ r ∈ C, r.length < 1000000000) (hDr : ∀ r ∈ D, r.length < 1000000000) : Pure Try.prog 22 [graph (intG N), graph C, ints L, graph D] (.s (.v (.bool (decide (intG (comps N) = C) && (decide (intR (loopsN N) = L) && decide (intG (condN N) = D)))))) := by
  have h1 := sccComps N hN (by omega) (fun r h => by have := hr r h; omega)
  have h2 := sccLoops N hN (by omega) (fun r h => by have := hr r h; omega)
  have h3 := sccCond N hN hn hr
  have z1 := int_small (comps_small (N := N))
  have z2 := int_small (cond_small (N := N))
  have z3 := loops_small (N := N)
  exact says0 h1 h2 h3 C D L (equalInts2 _ C (by omega) (by omega) (fun r h => by have := z1.2 r h; omega) (fun r h => by have := hCr r h; omega)) (equalInts _ L (by rw [intR, List.length_map]; omega) (by omega)) (equalInts2 _ D (by omega) (by omega) (fun r h => by have := z2.2 r h; omega) (fun r h => by have := hDr r h; omega))
def smallB (C : List (List Int)) : Bool := Nat.blt C.length 1000000000 && C.all fun r => Nat.blt r.length 1000000000
set_option maxRecDepth 100000 in
theorem small_of {C : List (List Int)} (h : smallB C = true) : C.length < 1000000000 ∧ ∀ r ∈ C, r.length < 1000000000 := by
  have h := (Bool.and_eq_true _ _ ▸ h : _ ∧ _)
  exact ⟨Nat.blt_eq ▸ h.1, fun r hr => Nat.blt_eq ▸ List.all_eq_true.1 h.2 r hr⟩
def okB (N : G) : Bool := N.all fun r => r.all fun x => Nat.blt x N.length
set_option maxRecDepth 100000 in
theorem ok_of {N : G} (h : okB N = true) : GOk N := by
  intro i k e
  unfold edge at e
  rw [List.getD_eq_getElem?_getD] at e
  cases hr : N[i]? with
  | none => rw [hr] at e; cases e
  | some r =>
    rw [hr] at e
    exact Nat.blt_eq ▸ List.all_eq_true.1 (List.all_eq_true.1 h r (List.mem_of_getElem? hr)) k e
/-- All that says asks at an example. -/
def saysB (N : G) (C D : List (List Int)) (L : List Int) : Bool := okB N && (Nat.ble N.length 1000 && (N.all (fun r => Nat.blt r.length 1000) && (smallB C && (smallB D && (Nat.blt L.length 1000000000 && (decide (intG (comps N) = C) && (decide (intR (loopsN N) = L) && decide (intG (condN N) = D))))))))
set_option maxRecDepth 100000 in
theorem says_at (N : G) (C D : List (List Int)) (L : List Int) (h : saysB N C D L = true) : Pure Try.prog 22 [graph (intG N), graph C, ints L, graph D] (.s (.v (.bool true))) := by
  obtain ⟨h1, h⟩ := (Bool.and_eq_true _ _ ▸ h : _ ∧ _)
  obtain ⟨h2, h⟩ := (Bool.and_eq_true _ _ ▸ h : _ ∧ _)
  obtain ⟨h3, h⟩ := (Bool.and_eq_true _ _ ▸ h : _ ∧ _)
  obtain ⟨h4, h⟩ := (Bool.and_eq_true _ _ ▸ h : _ ∧ _)
  obtain ⟨h5, h⟩ := (Bool.and_eq_true _ _ ▸ h : _ ∧ _)
  obtain ⟨h6, h⟩ := (Bool.and_eq_true _ _ ▸ h : _ ∧ _)
  have := says N (ok_of h1) (Nat.le_of_ble_eq_true h2) (fun r hr => Nat.blt_eq ▸ List.all_eq_true.1 h3 r hr) C D L (small_of h4).1 (small_of h5).1 (Nat.blt_eq ▸ h6) (small_of h4).2 (small_of h5).2
  rwa [h] at this
set_option maxRecDepth 100000 in
theorem awake : Pure Try.prog 23 [] (.s (.v (.bool true))) :=
  awake0 (sccCompsE [[1]] (by decide) (by simp) (by decide)) (says_at [[1], [2], [0], [2]] [[0, 1, 2], [3]] [[], [0]] [0, 1, 2] (by kernel_rfl)) (says_at [[0], [0, 0]] [[0], [1]] [[], [0]] [0] (by kernel_rfl))
end Go.Proofs.Ytfokjpmcifkoeaa
