/- A row of the condensed graph, from sorted and compacted targets. No program in sight. No condition. -/
import Derived.Test.YtfokjpmcifkoeaaComp3
import Derived.Test.YtfokjpmcifkoeaaBandMath
import Derived.Test.YtfokjpmcifkoeaaCE0
namespace Go.Proofs.Ytfokjpmcifkoeaa
open Pv Scc
set_option maxRecDepth 100000 in
theorem compact_nat {L M : List Nat} (hM : M.Pairwise (· < ·)) (h : ∀ x, x ∈ M ↔ x ∈ L) : Go.Lib.compact (isort (intR L)) = intR M := by
  obtain ⟨h1, h2⟩ := compact_sorted (isort_sorted (intR L))
  refine pw_ext (lt := (· < ·)) (fun a => Int.lt_irrefl a) (fun a b h h' => by omega) h1 ?_ fun x => ?_
  · unfold intR; exact List.pairwise_map.2 (hM.imp fun h => Int.ofNat_lt.2 h)
  · rw [h2, isort_mem]
    unfold intR
    rw [List.mem_map, List.mem_map]
    exact ⟨fun ⟨a, ha, e⟩ => ⟨a, (h a).2 ha, e⟩, fun ⟨a, ha, e⟩ => ⟨a, (h a).1 ha, e⟩⟩
set_option maxRecDepth 100000 in
theorem cond_row {N : G} (hN : GOk N) {a : Nat} {c : List Nat} (hc : (comps N)[a]? = some c) : Go.Lib.compact (isort (intR ((tgs N c c.length 0).filter fun b => b != a))) = intR (condRow N a) := by
  refine compact_nat ((range_lt _).filter _) fun b => ?_
  rw [condRow, List.mem_filter, List.mem_filter, List.mem_range, tgs_all, Bool.and_eq_true, show (comps N).getD a [] = c by rw [List.getD_eq_getElem?_getD, hc]; rfl]
  constructor
  · rintro ⟨_, h1, h2⟩; exact ⟨h2, h1⟩
  · rintro ⟨h2, h1⟩
    refine ⟨?_, h1, h2⟩
    obtain ⟨i, _, hi⟩ := List.any_eq_true.1 h2
    obtain ⟨k, hk, he⟩ := List.any_eq_true.1 hi
    rw [← eq_of_beq he]
    exact ofN_lt hN (hN i k hk)
end Go.Proofs.Ytfokjpmcifkoeaa
